import PyProof.Rows.All
import Wide.All
import OpenK.AllK
import Wide.FinOn
import HandS.ForMost
import HandS.Wide
import HandS.TupAny
import HandS.TupMul
import HandS.IsInst
import HandS.DeepEq
import HandS.Deep
import HandS.Flow
import HandS.Style
import HandS.SetFor
import HandS.Small
import HandS.Conv
import HandS.More
import PySem.Challenge.RW_nowhisper_k75_what_was_heard
set_option Elab.async false
set_option linter.all false
set_option maxRecDepth 100000
/-! Nw, part A: a small evaluator of Python over plain values (tuples as values) and a list of objects. -/
namespace Nw
open PySem PySem.Spec PyProof.Rows L2

/-- a text by its code points -/
def S (l : List Nat) : Str := ⟨l.toArray⟩
theorem S_inj {a b : List Nat} : S a = S b ↔ a = b := by
  constructor
  · intro h
    have := congrArg (fun s : Str => s.cps.toList) h
    simpa [S] using this
  · rintro rfl; rfl

inductive W where
  | non | bl (b : Bool) | int (i : Int) | str (s : Str) | tup (ws : List W) | rol (ws : List W) | ref (r : Nat)
  deriving Inhabited

inductive O where
  | lst (ws : List W) | dct (kvs : List (Key × W)) | ins (c : Nat) (fs : List (Str × W))

abbrev VH := List O
abbrev Env := Nat → Option W

inductive R (α : Type) where
  | ok (a : α) (h : VH) | bad

def R.bind {α β : Type} (r : R α) (f : α → VH → R β) : R β := match r with | .ok a h => f a h | .bad => .bad
theorem R.bind_ok {α β : Type} (a : α) (h : VH) (f : α → VH → R β) : (R.ok a h).bind f = f a h := rfl
theorem R.bind_bad {α β : Type} (f : α → VH → R β) : (R.bad : R α).bind f = .bad := rfl
theorem R.bind_eq {α β : Type} {r : R α} {f : α → VH → R β} {b : β} {h : VH} (e : r.bind f = .ok b h) : ∃ a h1, r = .ok a h1 ∧ f a h1 = .ok b h := by
  cases r with
  | ok a h1 => exact ⟨a, h1, rfl, e⟩
  | bad => cases e

inductive Bop where | add | sub | mul | fdiv | mod | pow | shl | shr | band | bor | bxor
  deriving DecidableEq
inductive Cop where | eq | ne | lt | le | gt | ge | is | isn | isin | notin
  deriving DecidableEq
inductive IK where | plain | range | zip
  deriving DecidableEq
inductive TN where | nm (i : Nat) | tp (ts : List TN)
inductive Bi where | len | abs | int | str | list | tuple | max | min | sum | sorted | repr | all
  deriving DecidableEq
inductive Ty where | tuple | list | str | int | bool | dict
  deriving DecidableEq

inductive E where
  | var (i : Nat)
  | cst (w : W)
  | gl (x : Str)
  | bin (o : Bop) (a b : E)
  | neg (a : E)
  | nt (a : E)
  | cmp (o : Cop) (a b : E)
  | chn (o p : Cop) (a b c : E)
  | and (es : List E)
  | or (es : List E)
  | ite (c a b : E)
  | tup (es : List E)
  | lst (es : List E)
  | dct (ks : List Key) (es : List E)
  | ix (a b : E)
  | sl (a : E) (lo hi : Option E)
  | rev (a : E)
  | call (f : Nat) (es : List E)
  | bi (f : Bi) (es : List E)
  | isi (a : E) (t : Ty)
  | mth (o : E) (m : Str) (es : List E)
  | fld (o : E) (f : Str)
  | lc (elt : E) (own : List Nat) (tg : TN) (k : IK) (it : List E) (cs : List E)
  | new (c : Nat) (es : List E)
  | trg (es : List E)

inductive Tg where | nm (i : Nat) | tp (ts : List Tg) | sub (o i : E) | att (o : E) (f : Str)

inductive Sm where
  | ex (e : E)
  | set (t : Tg) (e : E)
  | augN (i : Nat) (o : Bop) (e : E)
  | augS (o i : E) (p : Bop) (e : E)
  | augA (o : E) (f : Str) (p : Bop) (e : E)
  | ret (e : Option E)
  | ife (c : E) (a b : List Sm)
  | whl (c : E) (b : List Sm)
  | for (t : TN) (k : IK) (it : List E) (b : List Sm)
  | pass | brk | cont | bad
  | slS (o : E) (lo hi : E) (e : E)

structure Cfg where
  call : Nat → List W → VH → R W
  make : Nat → List W → VH → R W
  fok : Nat → Str → Bool
  meth : Nat → Str → Option Nat
  glob : Str → Option W
  M : Nat

abbrev line : Nat := 16777216

/-! ### values -/
def keyW : W → Option Key
  | .int i => some (.inl i)
  | .str s => some (.inr s)
  | _ => none
def dget : List (Key × W) → Key → Option W
  | [], _ => none
  | (k, v) :: r, j => if k = j then some v else dget r j
def dset (l : List (Key × W)) (k : Key) (w : W) : List (Key × W) :=
  if (l.any fun p => decide (p.1 = k)) = true then l.map (fun p => if p.1 = k then (p.1, w) else p) else l ++ [(k, w)]
def fget : List (Str × W) → Str → Option W
  | [], _ => none
  | (k, v) :: r, j => if k = j then some v else fget r j
def fset : List (Str × W) → Str → W → List (Str × W)
  | [], j, w => [(j, w)]
  | (k, v) :: r, j, w => if k = j then (k, w) :: r else (k, v) :: fset r j w
/-- a list or tuple's place -/
def atW (ws : List W) (i : Int) : Option W := if 0 ≤ i then ws[i.toNat]? else if -(ws.length : Int) ≤ i then ws[(i + ws.length).toNat]? else none
def cut {α : Type} (ws : List α) (lo hi : Option Int) : List α := (ws.drop (HT.sIx ws.length 0 lo)).take (HT.sIx ws.length ws.length hi - HT.sIx ws.length 0 lo)

def listAt (h : VH) (r : Nat) : Option (List W) := match h[r]? with | some (.lst ws) => some ws | _ => none
/-- the items of a list or tuple -/
def seqOf (h : VH) : W → Option (List W)
  | .tup ws => some ws
  | .rol ws => some ws
  | .ref r => listAt h r
  | _ => none
def truW (h : VH) : W → Option Bool
  | .non => some false
  | .bl b => some b
  | .int i => some (i != 0)
  | .str s => if s.length ≤ line then some ((s.length : Int) != 0) else none
  | .tup ws => some (!ws.isEmpty)
  | .rol ws => some (!ws.isEmpty)
  | .ref r => match h[r]? with
    | some (.lst ws) => some (!ws.isEmpty)
    | some (.dct kvs) => some (!kvs.isEmpty)
    | _ => none
mutual
def datP : W → Option PyData
  | .non => some .none
  | .bl b => some (.bool b)
  | .int i => some (.int i)
  | .str s => if s.cps.all (· < 0x110000) then some (.str s) else none
  | .tup ws => (datPs ws).map .tuple
  | .rol ws => (datPs ws).map .list
  | .ref _ => none
def datPs : List W → Option (List PyData)
  | [] => some []
  | w :: ws => match datP w, datPs ws with | some d, some ds => some (d :: ds) | _, _ => none
end
def allSome {α β : Type} (f : α → Option β) : List α → Option (List β)
  | [] => some []
  | a :: r => match f a, allSome f r with | some b, some bs => some (b :: bs) | _, _ => none
/-- lists down to depth n -/
def datW (h : VH) : Nat → W → Option PyData
  | 0, w => datP w
  | n + 1, .ref r => match listAt h r with | some ws => (allSome (datW h n) ws).map .list | none => none
  | n + 1, .tup ws => (allSome (datW h n) ws).map .tuple
  | n + 1, .rol ws => (allSome (datW h n) ws).map .list
  | _ + 1, w => datP w
def eqD (h : VH) (a b : W) : Option Bool := match datW h 12 a, datW h 12 b with
  | some d, some e => if SeqAt.shaped d = true ∧ SeqAt.shaped e = true then some (PyData.eqv d e) else none
  | _, _ => none
def eqW (h : VH) (a b : W) : Option Bool := match a, b with
  | .int i, .int j => some (decide (i = j))
  | .str i, .str j => some (decide (i = j))
  | .bl i, .bl j => some (decide (i = j))
  | a, b => eqD h a b
def flatW : W → Bool
  | .non => true
  | .bl _ => true
  | .int _ => true
  | .str _ => true
  | _ => false
/-- == of flat values -/
def eqF : W → W → Bool
  | .non, .non => true
  | .bl a, .bl b => a == b
  | .bl a, .int b => (if a then 1 else 0) == b
  | .int a, .bl b => a == (if b then 1 else 0)
  | .int a, .int b => a == b
  | .str a, .str b => a == b
  | _, _ => false

def ok? {α : Type} (o : Option α) (h : VH) : R α := match o with | some a => .ok a h | none => .bad
def new (o : O) (h : VH) : R W := .ok (.ref h.length) (h ++ [o])
def newL (ws : List W) (h : VH) : R W := if ws.length ≤ line then new (.lst ws) h else .bad

/-! ### operators -/
def addW (a b : W) (h : VH) : R W := match a, b with
  | .int i, .int j => .ok (.int (i + j)) h
  | .str x, .str y => if x.length + y.length ≤ line then .ok (.str (x ++ y)) h else .bad
  | .tup x, .tup y => if x.length + y.length ≤ line then .ok (.tup (x ++ y)) h else .bad
  | .ref r, .ref q => match h[r]?, h[q]? with
    | some (.lst x), some (.lst y) => if x.length + y.length ≤ line then new (.lst (x ++ y)) h else .bad
    | _, _ => .bad
  | _, _ => .bad
def mulOk (i j : Int) : Bool := i.natAbs < 2 ^ 60 || j.natAbs < 2 ^ 60
def mulW (a b : W) (h : VH) : R W := match a, b with
  | .int i, .int j => if mulOk i j then .ok (.int (i * j)) h else .bad
  | .ref r, .int j => match h[r]? with
    | some (.lst x) => if j < 2 ^ 30 ∧ -(2 ^ 30) < j ∧ x.length * j.toNat ≤ line then new (.lst (List.replicate j.toNat x).flatten) h else .bad
    | _ => .bad
  | .tup x, .int j => if x ≠ [] ∧ 2 ≤ j ∧ j ≤ 1000 ∧ x.length ≤ 1000 then .ok (.tup (List.replicate j.toNat x).flatten) h else .bad
  | _, _ => .bad
def binI : Bop → Int → Int → Option Int
  | .sub, i, j => some (i - j)
  | .fdiv, i, j => if 0 < j ∧ j < 2 ^ 100 then some (i / j) else none
  | .mod, i, j => if 0 < j then some (i % j) else none
  | .pow, i, j => if 0 ≤ j ∧ j ≤ 1000 ∧ i.natAbs < 2 ^ 60 then some (i ^ j.toNat) else none
  | .shl, i, j => if 0 ≤ j ∧ j ≤ 1000 ∧ i.natAbs < 2 ^ 60 then some (i * 2 ^ j.toNat) else none
  | .shr, i, j => if 0 ≤ j then some (i / 2 ^ j.toNat) else none
  | .band, i, j => some (Builtin.bitAnd i j)
  | .bor, i, j => some (Builtin.bitOr i j)
  | .bxor, i, j => some (Builtin.bitXor i j)
  | .add, _, _ => none
  | .mul, _, _ => none
def int2 (f : Int → Int → Option Int) (a b : W) (h : VH) : R W := match a, b with
  | .int i, .int j => (match f i j with | some k => .ok (.int k) h | none => .bad)
  | _, _ => .bad
def binW (o : Bop) (a b : W) (h : VH) : R W := match o with
  | .add => addW a b h
  | .mul => mulW a b h
  | o => int2 (binI o) a b h
/-- x in y -/
def inF (a : W) (ws : List W) : Option Bool := if flatW a = true ∧ ws.all flatW = true then some (ws.any fun y => eqF y a) else none
def inD (h : VH) (a : W) (ws : List W) : Option Bool := match datW h 12 a, allSome (datW h 11) ws with
  | some d, some ds => if SeqAt.shaped d = true ∧ SeqAt.shaped (.list ds) = true then some (ds.any fun z => PyData.eqv z d) else none
  | _, _ => none
def inL (h : VH) (a : W) (ws : List W) : Option Bool := match inF a ws with | some b => some b | none => inD h a ws
def inW (h : VH) (a b : W) : Option Bool := match b with
  | .tup ws => inF a ws
  | .rol ws => inL h a ws
  | .ref r => match h[r]? with
    | some (.dct kvs) => (keyW a).map fun k => (dget kvs k).isSome
    | some (.lst ws) => inL h a ws
    | _ => none
  | _ => none
def cmpW (o : Cop) (a b : W) (h : VH) : Option Bool := match o with
  | .eq => eqW h a b
  | .ne => (eqW h a b).map (!·)
  | .lt => match a, b with | .int i, .int j => some (decide (i < j)) | _, _ => none
  | .le => match a, b with | .int i, .int j => some (decide (i ≤ j)) | _, _ => none
  | .gt => match a, b with | .int i, .int j => some (decide (j < i)) | _, _ => none
  | .ge => match a, b with | .int i, .int j => some (decide (j ≤ i)) | _, _ => none
  | .is => match a, b with | .non, .non => some true | _, .non => some false | .bl x, .bl y => some (x == y) | _, _ => none
  | .isn => match a, b with | .non, .non => some false | _, .non => some true | .bl x, .bl y => some (!(x == y)) | _, _ => none
  | .isin => inW h a b
  | .notin => (inW h a b).map (!·)
def tyW (h : VH) : W → Option Ty
  | .bl _ => some .bool
  | .int _ => some .int
  | .str _ => some .str
  | .tup _ => some .tuple
  | .rol _ => some .list
  | .ref r => match h[r]? with
    | some (.lst _) => some .list
    | some (.dct _) => some .dict
    | _ => none
  | .non => none
/-- isinstance: a bool is an int; None is none of these -/
def isiW (h : VH) (t : Ty) : W → Option Bool
  | .non => some false
  | .bl _ => some (t == .bool || t == .int)
  | w => (tyW h w).map (· == t)

def ixW (h : VH) (a b : W) : Option W := match a, b with
  | .tup ws, .int i => atW ws i
  | .rol ws, .int i => atW ws i
  | .ref r, k => match h[r]? with
    | some (.dct kvs) => match keyW k with | some k => dget kvs k | none => none
    | some (.lst ws) => match k with | .int i => atW ws i | _ => none
    | _ => none
  | _, _ => none
def slW (a : W) (lo hi : Option Int) (h : VH) : R W := match a with
  | .tup ws => .ok (.tup (cut ws lo hi)) h
  | .rol ws => new (.lst (cut ws lo hi)) h
  | .ref r => match listAt h r with | some ws => new (.lst (cut ws lo hi)) h | none => .bad
  | _ => .bad
def revW (a : W) (h : VH) : R W := match a with
  | .tup ws => .ok (.tup ws.reverse) h
  | .ref r => match h[r]? with | some (.lst ws) => new (.lst ws.reverse) h | _ => .bad
  | _ => .bad
def intsOf : List W → Option (List Int)
  | [] => some []
  | .int i :: r => (intsOf r).map (i :: ·)
  | _ :: _ => none
def strsOf : List W → Option (List Str)
  | [] => some []
  | .str i :: r => (strsOf r).map (i :: ·)
  | _ :: _ => none
def blsOf : List W → Option (List Bool)
  | [] => some []
  | .bl i :: r => (blsOf r).map (i :: ·)
  | _ :: _ => none
def maxI : List Int → Int
  | [] => 0
  | a :: r => r.foldl max a
def minI : List Int → Int
  | [] => 0
  | a :: r => r.foldl min a
/-- the ints of a list -/
def intsAt (h : VH) : W → Option (List Int)
  | .rol ws => intsOf ws
  | .ref r => match listAt h r with | some ws => intsOf ws | none => none
  | _ => none
/-- of a tuple, too -/
def intsAt2 (h : VH) : W → Option (List Int)
  | .tup ws => intsOf ws
  | w => intsAt h w
def biW (f : Bi) (as : List W) (h : VH) : R W := match f, as with
  | .len, [.str s] => if s.length ≤ line then .ok (.int s.length) h else .bad
  | .len, [.tup ws] => .ok (.int ws.length) h
  | .len, [.rol ws] => .ok (.int ws.length) h
  | .len, [.ref r] => match h[r]? with
    | some (.lst ws) => .ok (.int ws.length) h
    | some (.dct kvs) => .ok (.int kvs.length) h
    | _ => .bad
  | .abs, [.int i] => .ok (.int (if i < 0 then -i else i)) h
  | .int, [.int i] => .ok (.int i) h
  | .int, [.bl b] => .ok (.int (if b then 1 else 0)) h
  | .str, [.int i] => if i.natAbs < 2 ^ 64 then .ok (.str (toString i)) h else .bad
  | .list, [a] => match seqOf h a with | some ws => new (.lst ws) h | none => .bad
  | .tuple, [.tup ws] => .ok (.tup ws) h
  | .tuple, [a] => match seqOf h a with | some ws => .ok (.tup ws) h | none => .bad
  | .max, [.int i, .int j] => .ok (.int (if j > i then j else i)) h
  | .min, [.int i, .int j] => .ok (.int (if j < i then j else i)) h
  | .max, [a] => match intsAt2 h a with | some ns => if ns = [] then .bad else .ok (.int (maxI ns)) h | none => .bad
  | .min, [a] => match intsAt2 h a with | some ns => if ns = [] then .bad else .ok (.int (minI ns)) h | none => .bad
  | .sum, [a] => match intsAt h a with | some ns => .ok (.int ns.sum) h | none => .bad
  | .sorted, [a] => match intsAt h a with | some ns => if ns.length < 64 then new (.lst ((ns.mergeSort (· ≤ ·)).map W.int)) h else .bad | none => .bad
  | .all, [.ref r] => match listAt h r with | some ws => (match blsOf ws with | some bs => .ok (.bl (bs.all id)) h | none => .bad) | none => .bad
  | _, _ => .bad
/-- a method of a list -/
def lmW (m : Str) (r : Nat) (as : List W) (h : VH) : R W := match h[r]? with
  | some (.lst ws) =>
    if m = S [97, 112, 112, 101, 110, 100] then match as with
      | [w] => if ws.length < line then .ok .non (h.set r (.lst (ws ++ [w]))) else .bad
      | _ => .bad
    else if m = S [101, 120, 116, 101, 110, 100] then match as with
      | [.ref q] => match h[q]? with | some (.lst zs) => if ws.length + zs.length ≤ line then .ok .non (h.set r (.lst (ws ++ zs))) else .bad | _ => .bad
      | _ => .bad
    else if m = S [112, 111, 112] then match as with
      | [] => if ws = [] then .bad else .ok (ws.getLast?.getD .non) (h.set r (.lst ws.dropLast))
      | [.int 0] => match ws with | w :: zs => .ok w (h.set r (.lst zs)) | [] => .bad
      | _ => .bad
    else if m = S [105, 110, 100, 101, 120] then match as with
      | [w] => if flatW w = true ∧ ws.all flatW = true then (match ws.findIdx? (fun y => eqF y w) with | some j => .ok (.int (j : Nat)) h | none => .bad) else .bad
      | _ => .bad
    else if m = S [99, 111, 117, 110, 116] then match as with
      | [w] => if flatW w = true ∧ ws.all flatW = true then .ok (.int (ws.countP (fun y => eqF y w) : Nat)) h else .bad
      | _ => .bad
    else if m = S [114, 101, 109, 111, 118, 101] then match as with
      | [.int k] => match intsOf ws with | some ns => if k ∈ ns then .ok .non (h.set r (.lst ((ns.erase k).map W.int))) else .bad | none => .bad
      | _ => .bad
    else if m = S [105, 110, 115, 101, 114, 116] then match as with
      | [.int 0, w] => if ws.length < line then .ok .non (h.set r (.lst (w :: ws))) else .bad
      | _ => .bad
    else .bad
  | _ => .bad

inductive Its where | ws (l : List W) | live (r : Nat)
def itLen (h : VH) : Its → Nat
  | .ws l => l.length
  | .live r => match listAt h r with | some ws => ws.length | none => 0
/-- turn i: none: bad; some none: at the end -/
def itAt (h : VH) (i : Nat) : Its → Option (Option W)
  | .ws l => some l[i]?
  | .live r => match listAt h r with | some ws => some ws[i]? | none => none
def rangeW (lo hi : Int) : List W := (List.range (hi - lo).toNat).map fun (k : Nat) => .int (lo + k)
def rangeS (lo hi st : Int) : List W := (List.range (Builtin.Range.rangeSize lo hi st).toNat).map fun (k : Nat) => .int (lo + k * st)
def inI (i : Int) : Bool := -(2 ^ 61) ≤ i ∧ i < 2 ^ 61
def zipW : List W → List W → List W
  | a :: x, b :: y => .tup [a, b] :: zipW x y
  | _, _ => []
/-- a text's signs -/
def strW (s : Str) : List W := s.cps.toList.map fun c => .str ⟨#[c]⟩
def itsOf (k : IK) (as : List W) (h : VH) : R Its := match k, as with
  | .plain, [.tup ws] => .ok (.ws ws) h
  | .plain, [.rol ws] => .ok (.ws ws) h
  | .plain, [.str s] => .ok (.ws (strW s)) h
  | .plain, [.ref r] => match listAt h r with | some _ => .ok (.live r) h | none => .bad
  | .range, [.int j] => if inI j then .ok (.ws (rangeW 0 j)) h else .bad
  | .range, [.int i, .int j] => if inI i ∧ inI j then .ok (.ws (rangeW i j)) h else .bad
  | .range, [.int i, .int j, .int s] => if s ≠ 0 ∧ s.natAbs < 1073741824 ∧ Builtin.Range.small i j s = true then .ok (.ws (rangeS i j s)) h else .bad
  | .zip, [.tup x, .tup y] => .ok (.ws (zipW x y)) h
  | _, _ => .bad

def setv (env : Env) (i : Nat) (w : W) : Env := fun j => if j = i then some w else env j
def wipeE (env : Env) (own : List Nat) : Env := fun j => if j ∈ own then none else env j
mutual
def bindT : TN → W → Env → Option Env
  | .nm i, w, env => some (setv env i w)
  | .tp ts, .tup ws, env => bindTs ts ws env
  | .tp _, _, _ => none
def bindTs : List TN → List W → Env → Option Env
  | [], [], env => some env
  | t :: ts, w :: ws, env => match bindT t w env with | some e => bindTs ts ws e | none => none
  | _, _, _ => none
end

/-- the loop of a comprehension: f gives none where a test is false -/
def lcRun (its : Its) (f : W → VH → R (Option W)) : Nat → Nat → List W → VH → R (List W)
  | 0, _, _, _ => .bad
  | n + 1, i, acc, h => match itAt h i its with
    | none => .bad
    | some none => .ok acc h
    | some (some w) => (f w h).bind fun r h1 => match r with
      | none => lcRun its f n (i + 1) acc h1
      | some x => if acc.length < line then lcRun its f n (i + 1) (acc ++ [x]) h1 else .bad

section
variable (C : Cfg)
mutual
def evE : E → Env → VH → R W
  | .var i, env, h => ok? (env i) h
  | .cst w, _, h => .ok w h
  | .gl x, _, h => ok? (C.glob x) h
  | .bin o a b, env, h => (evE a env h).bind fun x h1 => (evE b env h1).bind fun y h2 => binW o x y h2
  | .neg a, env, h => (evE a env h).bind fun x h1 => match x with | .int i => .ok (.int (-i)) h1 | _ => .bad
  | .nt a, env, h => (evE a env h).bind fun x h1 => (ok? (truW h1 x) h1).bind fun b h2 => .ok (.bl (!b)) h2
  | .cmp o a b, env, h => (evE a env h).bind fun x h1 => (evE b env h1).bind fun y h2 => (ok? (cmpW o x y h2) h2).bind fun k h3 => .ok (.bl k) h3
  | .chn o p a b c, env, h => (evE a env h).bind fun x h1 => (evE b env h1).bind fun y h2 => (ok? (cmpW o x y h2) h2).bind fun k h3 =>
      if k then (evE c env h3).bind fun z h4 => (ok? (cmpW p y z h4) h4).bind fun k h5 => .ok (.bl k) h5 else .ok (.bl false) h3
  | .and es, env, h => evAnd es env h
  | .or es, env, h => evOr es env h
  | .ite c a b, env, h => (evE c env h).bind fun x h1 => (ok? (truW h1 x) h1).bind fun k h2 => if k then evE a env h2 else evE b env h2
  | .tup es, env, h => (evEs es env h).bind fun ws h1 => if ws.length ≤ line then .ok (.tup ws) h1 else .bad
  | .lst es, env, h => (evEs es env h).bind fun ws h1 => newL ws h1
  | .dct ks es, env, h => (evEs es env h).bind fun ws h1 => if ks.length = ws.length ∧ ks.length ≤ 15 then new (.dct ((ks.zip ws).foldl (fun a p => dset a p.1 p.2) [])) h1 else .bad
  | .ix a b, env, h => (evE a env h).bind fun x h1 => (evE b env h1).bind fun y h2 => ok? (ixW h2 x y) h2
  | .sl a lo hi, env, h => (evE a env h).bind fun x h1 => (evO lo env h1).bind fun l h2 => (evO hi env h2).bind fun u h3 => slW x l u h3
  | .rev a, env, h => (evE a env h).bind fun x h1 => revW x h1
  | .call f es, env, h => (evEs es env h).bind fun ws h1 => C.call f ws h1
  | .bi f es, env, h => (evEs es env h).bind fun ws h1 => biW f ws h1
  | .isi a t, env, h => (evE a env h).bind fun x h1 => (ok? (isiW h1 t x) h1).bind fun k h2 => .ok (.bl k) h2
  | .mth o m es, env, h => (evE o env h).bind fun x h1 => (evEs es env h1).bind fun ws h2 => match x with
      | .ref r => match h1[r]? with
        | some (.lst _) => lmW m r ws h2
        | some (.ins c _) => match C.meth c m with | some f => C.call f (x :: ws) h2 | none => .bad
        | _ => .bad
      | _ => .bad
  | .fld o f, env, h => (evE o env h).bind fun x h1 => match x with
      | .ref r => match h1[r]? with | some (.ins _ fs) => ok? (fget fs f) h1 | _ => .bad
      | _ => .bad
  | .lc elt own tg k it cs, env, h => (evEs it env h).bind fun ws h1 => (itsOf k ws h1).bind fun its h2 =>
      (lcRun its (fun w h => match bindT tg w (wipeE env own) with
        | none => .bad
        | some e => (evTs cs e h).bind fun b h => if b then (evE elt e h).bind fun x h => .ok (some x) h else .ok none h) (itLen h2 its + 1) 0 [] h2).bind fun acc h3 => newL acc h3
  | .new c es, env, h => (evEs es env h).bind fun ws h1 => C.make c ws h1
  | .trg es, env, h => (evEs es env h).bind fun ws h1 => match ws with
      | [.int j] => if inI j ∧ j ≤ line then .ok (.tup (rangeW 0 j)) h1 else .bad
      | [.int i, .int j] => if inI i ∧ inI j ∧ (j - i).toNat ≤ line then .ok (.tup (rangeW i j)) h1 else .bad
      | _ => .bad
def evEs : List E → Env → VH → R (List W)
  | [], _, h => .ok [] h
  | e :: es, env, h => (evE e env h).bind fun x h1 => (evEs es env h1).bind fun xs h2 => .ok (x :: xs) h2
def evAnd : List E → Env → VH → R W
  | [], _, _ => .bad
  | [e], env, h => evE e env h
  | e :: e' :: es, env, h => (evE e env h).bind fun x h1 => (ok? (truW h1 x) h1).bind fun k h2 => if k then evAnd (e' :: es) env h2 else .ok x h2
def evOr : List E → Env → VH → R W
  | [], _, _ => .bad
  | [e], env, h => evE e env h
  | e :: e' :: es, env, h => (evE e env h).bind fun x h1 => (ok? (truW h1 x) h1).bind fun k h2 => if k then .ok x h2 else evOr (e' :: es) env h2
/-- tests behind one another: all are true -/
def evTs : List E → Env → VH → R Bool
  | [], _, h => .ok true h
  | e :: es, env, h => (evE e env h).bind fun x h1 => (ok? (truW h1 x) h1).bind fun k h2 => if k then evTs es env h2 else .ok false h2
def evO : Option E → Env → VH → R (Option Int)
  | none, _, h => .ok none h
  | some e, env, h => (evE e env h).bind fun x h1 => match x with | .int i => .ok (some i) h1 | _ => .bad
end
def evT (e : E) (env : Env) (h : VH) : R Bool := (evE C e env h).bind fun x h1 => ok? (truW h1 x) h1

/-- o[i] = w -/
def putW (o i w : W) (h : VH) : R Unit := match o with
  | .ref r => match h[r]? with
    | some (.lst ws) => match i with
      | .int j => if 0 ≤ j then (if j < ws.length then .ok () (h.set r (.lst (ws.set j.toNat w))) else .bad)
                  else if -(ws.length : Int) ≤ j then .ok () (h.set r (.lst (ws.set (j + ws.length).toNat w))) else .bad
      | _ => .bad
    | some (.dct kvs) => match keyW i with | some k => if kvs.length < line then .ok () (h.set r (.dct (dset kvs k w))) else .bad | none => .bad
    | _ => .bad
  | _ => .bad
def attW (fok : Nat → Str → Bool) (o : W) (f : Str) (w : W) (h : VH) : R Unit := match o with
  | .ref r => match h[r]? with | some (.ins c fs) => if fs.length < 900 ∧ fok c f = true then .ok () (h.set r (.ins c (fset fs f w))) else .bad | _ => .bad
  | _ => .bad
/-- o.f op= w, o still of the class c -/
def attA (fok : Nat → Str → Bool) (c : Nat) (o : W) (f : Str) (w : W) (h : VH) : R Unit := match o with
  | .ref r => match h[r]? with | some (.ins c' fs) => if fs.length < 900 ∧ fok c' f = true ∧ c' = c then .ok () (h.set r (.ins c' (fset fs f w))) else .bad | _ => .bad
  | _ => .bad
mutual
def asT : Tg → W → Env → VH → R Env
  | .nm i, w, env, h => .ok (setv env i w) h
  | .tp ts, .tup ws, env, h => asTs ts ws env h
  | .tp _, _, _, _ => .bad
  | .sub o i, w, env, h => (evE C o env h).bind fun x h1 => (evE C i env h1).bind fun y h2 => (putW x y w h2).bind fun _ h3 => .ok env h3
  | .att o f, w, env, h => (evE C o env h).bind fun x h1 => (attW C.fok x f w h1).bind fun _ h2 => .ok env h2
def asTs : List Tg → List W → Env → VH → R Env
  | [], [], env, h => .ok env h
  | t :: ts, w :: ws, env, h => (asT t w env h).bind fun e h1 => asTs ts ws e h1
  | _, _, _, _ => .bad
end
/-- o[lo:hi] = w, all of the list's own -/
def putS (o : W) (lo hi : Int) (w : W) (h : VH) : R Unit := match o, w with
  | .ref r, .ref q => if r = q then .bad else match h[r]?, h[q]? with
    | some (.lst xs), some (.lst ys) => if 0 ≤ lo ∧ lo ≤ hi ∧ hi ≤ xs.length ∧ xs.length + ys.length ≤ line then .ok () (h.set r (.lst (xs.take lo.toNat ++ ys ++ xs.drop hi.toNat))) else .bad
    | _, _ => .bad
  | _, _ => .bad
/-- op= -/
def augW : Bop → W → W → VH → R W
  | .add, .int i, .int j, h => .ok (.int (i + j)) h
  | .sub, .int i, .int j, h => .ok (.int (i - j)) h
  | _, _, _, _ => .bad

inductive Fl where | nx | rt (w : W) | bk | ct

def forRun (its : Its) (f : W → Env → VH → R (Fl × Env)) : Nat → Nat → Env → VH → R (Fl × Env)
  | 0, _, _, _ => .bad
  | n + 1, i, env, h => match itAt h i its with
    | none => .bad
    | some none => .ok (.nx, env) h
    | some (some w) => (f w env h).bind fun r h1 => match r with
      | (.nx, e) => forRun its f n (i + 1) e h1
      | (.ct, e) => forRun its f n (i + 1) e h1
      | (.bk, e) => .ok (.nx, e) h1
      | (.rt v, e) => .ok (.rt v, e) h1
def whRun (c : Env → VH → R Bool) (f : Env → VH → R (Fl × Env)) : Nat → Env → VH → R (Fl × Env)
  | 0, _, _ => .bad
  | n + 1, env, h => (c env h).bind fun k h1 => if k then (f env h1).bind fun r h2 => match r with
      | (.nx, e) => whRun c f n e h2
      | (.ct, e) => whRun c f n e h2
      | (.bk, e) => .ok (.nx, e) h2
      | (.rt v, e) => .ok (.rt v, e) h2
    else .ok (.nx, env) h1

mutual
def evS : Sm → Env → VH → R (Fl × Env)
  | .ex e, env, h => (evE C e env h).bind fun _ h1 => .ok (.nx, env) h1
  | .set t e, env, h => (evE C e env h).bind fun x h1 => (asT C t x env h1).bind fun env' h2 => .ok (.nx, env') h2
  | .augN i o e, env, h => (ok? (env i) h).bind fun x h0 => (evE C e env h0).bind fun y h1 => (augW o x y h1).bind fun z h2 => .ok (.nx, setv env i z) h2
  | .augS o i p e, env, h => (evE C o env h).bind fun x h1 => (evE C i env h1).bind fun y h2 => (ok? (ixW h2 x y) h2).bind fun old h3 =>
      (evE C e env h3).bind fun w h4 => (augW p old w h4).bind fun z h5 => (putW x y z h5).bind fun _ h6 => .ok (.nx, env) h6
  | .augA o f p e, env, h => (evE C o env h).bind fun x h1 => match x with
      | .ref r => match h1[r]? with
        | some (.ins c fs) => (ok? (fget fs f) h1).bind fun old h2 => (evE C e env h2).bind fun w h3 => (augW p old w h3).bind fun z h4 => (attA C.fok c x f z h4).bind fun _ h5 => .ok (.nx, env) h5
        | _ => .bad
      | _ => .bad
  | .ret none, env, h => .ok (.rt .non, env) h
  | .ret (some e), env, h => (evE C e env h).bind fun x h1 => .ok (.rt x, env) h1
  | .ife c a b, env, h => (evT C c env h).bind fun k h1 => if k then evSs a env h1 else evSs b env h1
  | .whl c b, env, h => whRun (fun env h => evT C c env h) (fun env h => evSs b env h) C.M env h
  | .for t k it b, env, h => (evEs C it env h).bind fun ws h1 => (itsOf k ws h1).bind fun its h2 =>
      forRun its (fun w env h => match bindT t w env with | none => .bad | some e => evSs b e h) (itLen h2 its + 1) 0 env h2
  | .bad, _, _ => .bad
  | .slS o lo hi e, env, h => (evE C e env h).bind fun w h1 => (evE C o env h1).bind fun x h2 => (evE C lo env h2).bind fun a h3 => (evE C hi env h3).bind fun b h4 => match a, b with
      | .int i, .int j => (putS x i j w h4).bind fun _ h5 => .ok (.nx, env) h5
      | _, _ => .bad
  | .pass, env, h => .ok (.nx, env) h
  | .brk, env, h => .ok (.bk, env) h
  | .cont, env, h => .ok (.ct, env) h
def evSs : List Sm → Env → VH → R (Fl × Env)
  | [], env, h => .ok (.nx, env) h
  | s :: ss, env, h => (evS s env h).bind fun r h1 => match r with
    | (.nx, e) => evSs ss e h1
    | r => .ok r h1
end
end

/-- a def: how many parameters; its body -/
structure Fn where
  ps : Nat
  body : List Sm
def env0 (ws : List W) : Env := fun i => ws[i]?
def runFn (C : Cfg) (d : Fn) (ws : List W) (h : VH) : R W :=
  if ws.length = d.ps then (evSs C d.body (env0 ws) h).bind fun r h1 => match r.1 with
    | .rt w => .ok w h1
    | .nx => .ok .non h1
    | _ => .bad
  else .bad
structure Prog where
  fns : List Fn
  meth : Nat → Str → Option Nat
  fok : Nat → Str → Bool
  glob : Str → Option W
  M : Nat
/-- a new instance, then its __init__ -/
def Prog.mk' (P : Prog) (call : Nat → List W → VH → R W) (c : Nat) (ws : List W) (h : VH) : R W := match P.meth c (S [95, 95, 105, 110, 105, 116, 95, 95]) with
  | some f => (call f (.ref h.length :: ws) (h ++ [.ins c []])).bind fun x h1 => match x with | .non => .ok (.ref h.length) h1 | _ => .bad
  | none => .bad
/-- calls and makings at a level -/
def Prog.lv (P : Prog) : Nat → (Nat → List W → VH → R W) × (Nat → List W → VH → R W)
  | 0 => (fun _ _ _ => .bad, fun _ _ _ => .bad)
  | n + 1 => (fun f ws h => match P.fns[f]? with | some d => runFn ⟨(P.lv n).1, (P.lv n).2, P.fok, P.meth, P.glob, P.M⟩ d ws h | none => .bad, P.mk' (P.lv n).1)
def Prog.call (P : Prog) (n : Nat) : Nat → List W → VH → R W := (P.lv n).1
def Prog.make (P : Prog) (n : Nat) : Nat → List W → VH → R W := (P.lv n).2
abbrev Prog.cfg (P : Prog) (n : Nat) : Cfg := ⟨P.call n, P.make n, P.fok, P.meth, P.glob, P.M⟩
theorem Prog.call_eq (P : Prog) (n f : Nat) (ws : List W) (h : VH) : P.call (n + 1) f ws h = match P.fns[f]? with | some d => runFn (P.cfg n) d ws h | none => .bad := rfl
theorem Prog.make_eq (P : Prog) (n c : Nat) (ws : List W) (h : VH) : P.make (n + 1) c ws h = P.mk' (P.call n) c ws h := rfl
end Nw

set_option Elab.async false
set_option linter.all false
set_option maxRecDepth 100000
/-! Nw, part B: how the evaluator's values and objects stand in the layer's abstract heap. -/
namespace Nw
open PySem PySem.Spec PyProof.Rows L2

/-- a list that nobody writes -/
def RoL (K : PySem.W.Frag) (H : Hp) (a : Addr) (xs : List V) : Prop :=
  (∃ o, H a = some (.frz o (.lst xs))) ∨
    ∃ (o : Obj) (its : Array Value) (n : Nat), K.lookup a = some o ∧ o.cls = .type "list" ∧ o.dict = none ∧ o.data = .seq its n ∧ its.size ≤ sizeLine ∧ Vals xs its.toList
theorem RoL.sql {K : PySem.W.Frag} {H : Hp} {a : Addr} {xs : List V} (h : RoL K H a xs) : SqL K H a xs := by
  rcases h with ⟨o, h⟩ | h
  · exact .inl (.inr ⟨o, h⟩)
  · exact .inr h

section
variable (K : PySem.W.Frag)
mutual
def ValR (ρ : List Addr) (H : Hp) : W → V → Prop
  | .non, v => v = .non
  | .bl b, v => v = .bl b
  | .int i, v => v = .int i
  | .str s, v => v = .str s
  | .tup ws, v => ∃ a xs, v = .ref a ∧ SqT K H a xs ∧ ValsR ρ H ws xs
  | .rol ws, v => ∃ a xs, v = .ref a ∧ RoL K H a xs ∧ ValsR ρ H ws xs
  | .ref r, v => ∃ a, v = .ref a ∧ ρ[r]? = some a
def ValsR (ρ : List Addr) (H : Hp) : List W → List V → Prop
  | [], vs => vs = []
  | w :: ws, vs => ∃ x xs, vs = x :: xs ∧ ValR ρ H w x ∧ ValsR ρ H ws xs
end
def KvR {κ : Type} (ρ : List Addr) (H : Hp) : List (κ × W) → List (κ × V) → Prop
  | [], l => l = []
  | (k, w) :: r, l => ∃ x l', l = (k, x) :: l' ∧ ValR K ρ H w x ∧ KvR ρ H r l'
def ObjR (cl : Nat → Option Addr) (ρ : List Addr) (H : Hp) (a : Addr) : O → Prop
  | .lst ws => ∃ xs, H a = some (.lst xs) ∧ ValsR K ρ H ws xs
  | .dct kvs => ∃ l, H a = some (.dK l) ∧ KvR K ρ H kvs l
  | .ins c fs => ∃ C dx l, cl c = some C ∧ H a = some (.ins C dx l) ∧ KvR K ρ H fs l ∧ ∀ p ∈ fs, NoAttr K C p.1
structure Rel (cl : Nat → Option Addr) (ρ : List Addr) (vh : VH) (H : Hp) : Prop where
  len : ρ.length = vh.length
  obj : ∀ (r : Nat) (o : O) (a : Addr), vh[r]? = some o → ρ[r]? = some a → ObjR K cl ρ H a o
  inj : ∀ r r' a : Nat, ρ[r]? = some a → ρ[r']? = some a → r = r'
end
/-- what a step leaves as it was -/
structure Fr (ρ : List Addr) (H : Hp) (ρ' : List Addr) (H' : Hp) : Prop where
  pre : ∃ m, ρ' = ρ ++ m
  keep : ∀ a o, H a = some o → a ∉ ρ → H' a = some o ∧ a ∉ ρ'
theorem Fr.rfl' {ρ : List Addr} {H : Hp} : Fr ρ H ρ H := ⟨⟨[], by simp⟩, fun a o h n => ⟨h, n⟩⟩
theorem Fr.trans {ρ ρ1 ρ2 : List Addr} {H H1 H2 : Hp} (a : Fr ρ H ρ1 H1) (b : Fr ρ1 H1 ρ2 H2) : Fr ρ H ρ2 H2 := by
  refine ⟨?_, fun c o h n => ?_⟩
  · obtain ⟨m, e⟩ := a.pre
    obtain ⟨m', e'⟩ := b.pre
    exact ⟨m ++ m', by rw [e', e, List.append_assoc]⟩
  · obtain ⟨h1, n1⟩ := a.keep c o h n
    exact b.keep c o h1 n1
theorem Fr.get {ρ ρ' : List Addr} {H H' : Hp} (f : Fr ρ H ρ' H') {r : Nat} {a : Addr} (h : ρ[r]? = some a) : ρ'[r]? = some a := by
  obtain ⟨m, e⟩ := f.pre
  rw [e, List.getElem?_append_left (List.getElem?_eq_some_iff.mp h).1]; exact h

section
variable {K : PySem.W.Frag} {cl : Nat → Option Addr} {ρ ρ' : List Addr} {vh : VH} {H H' : Hp}
theorem Rel.track (R : Rel K cl ρ vh H) {a : Addr} (h : a ∈ ρ) : ∃ u, H a = some u ∧ (∀ xs, u ≠ .tup xs) ∧ ∀ o v, u ≠ .frz o v := by
  obtain ⟨r, hr⟩ := List.getElem?_of_mem h
  have hl : r < vh.length := by rw [← R.len]; exact (List.getElem?_eq_some_iff.mp hr).1
  have q := R.obj r vh[r] a (List.getElem?_eq_getElem hl) hr
  cases e : vh[r] with
  | lst ws => rw [e] at q; obtain ⟨xs, h, _⟩ := q; exact ⟨_, h, by simp, by simp⟩
  | dct ws => rw [e] at q; obtain ⟨xs, h, _⟩ := q; exact ⟨_, h, by simp, by simp⟩
  | ins c ws => rw [e] at q; obtain ⟨_, _, _, _, h, _, _⟩ := q; exact ⟨_, h, by simp, by simp⟩
theorem Rel.noT (R : Rel K cl ρ vh H) {a : Addr} {xs : List V} (h : H a = some (.tup xs)) : a ∉ ρ := fun z => by
  obtain ⟨u, e, n, _⟩ := R.track z
  rw [h] at e; cases e; exact n _ rfl
theorem Rel.noF (R : Rel K cl ρ vh H) {a : Addr} {o : Obj} {u : HO} (h : H a = some (.frz o u)) : a ∉ ρ := fun z => by
  obtain ⟨u, e, _, n⟩ := R.track z
  rw [h] at e; cases e; exact n _ _ rfl
theorem SqT.stay (R : Rel K cl ρ vh H) (f : Fr ρ H ρ' H') {a : Addr} {xs : List V} (h : SqT K H a xs) : SqT K H' a xs := by
  rcases h with (h | ⟨o, h⟩) | h
  · exact .inl (.inl (f.keep a _ h (R.noT h)).1)
  · exact .inl (.inr ⟨o, (f.keep a _ h (R.noF h)).1⟩)
  · exact .inr h
theorem RoL.stay (R : Rel K cl ρ vh H) (f : Fr ρ H ρ' H') {a : Addr} {xs : List V} (h : RoL K H a xs) : RoL K H' a xs := by
  rcases h with ⟨o, h⟩ | h
  · exact .inl ⟨o, (f.keep a _ h (R.noF h)).1⟩
  · exact .inr h
/-- what keeps values -/
structure Kp (K : PySem.W.Frag) (ρ : List Addr) (H : Hp) (ρ' : List Addr) (H' : Hp) : Prop where
  get : ∀ (r : Nat) (a : Addr), ρ[r]? = some a → ρ'[r]? = some a
  sqt : ∀ a xs, SqT K H a xs → SqT K H' a xs
  rol : ∀ a xs, RoL K H a xs → RoL K H' a xs
theorem Fr.kp (R : Rel K cl ρ vh H) (f : Fr ρ H ρ' H') : Kp K ρ H ρ' H' := ⟨fun _ _ h => f.get h, fun _ _ h => SqT.stay R f h, fun _ _ h => RoL.stay R f h⟩
mutual
theorem ValR.keep (f : Kp K ρ H ρ' H') : ∀ {w : W} {v : V}, ValR K ρ H w v → ValR K ρ' H' w v
  | .non, _, h => by unfold ValR at h ⊢; exact h
  | .bl _, _, h => by unfold ValR at h ⊢; exact h
  | .int _, _, h => by unfold ValR at h ⊢; exact h
  | .str _, _, h => by unfold ValR at h ⊢; exact h
  | .tup ws, _, h => by
    unfold ValR at h ⊢
    obtain ⟨a, xs, e, hs, hv⟩ := h
    exact ⟨a, xs, e, f.sqt _ _ hs, ValsR.keep f hv⟩
  | .rol ws, _, h => by
    unfold ValR at h ⊢
    obtain ⟨a, xs, e, hs, hv⟩ := h
    exact ⟨a, xs, e, f.rol _ _ hs, ValsR.keep f hv⟩
  | .ref r, _, h => by
    unfold ValR at h ⊢
    obtain ⟨a, e, hs⟩ := h
    exact ⟨a, e, f.get _ _ hs⟩
theorem ValsR.keep (f : Kp K ρ H ρ' H') : ∀ {ws : List W} {vs : List V}, ValsR K ρ H ws vs → ValsR K ρ' H' ws vs
  | [], _, h => by unfold ValsR at h ⊢; exact h
  | w :: ws, _, h => by
    unfold ValsR at h ⊢
    obtain ⟨x, xs, e, h1, h2⟩ := h
    exact ⟨x, xs, e, ValR.keep f h1, ValsR.keep f h2⟩
end
theorem KvR.keep {κ : Type} (f : Kp K ρ H ρ' H') : ∀ {ws : List (κ × W)} {vs : List (κ × V)}, KvR K ρ H ws vs → KvR K ρ' H' ws vs
  | [], _, h => h
  | (k, w) :: ws, _, h => by
    obtain ⟨x, xs, e, h1, h2⟩ := h
    exact ⟨x, xs, e, ValR.keep f h1, KvR.keep f h2⟩
theorem ObjR.keep (f : Kp K ρ H ρ' H') {a : Addr} {o : O} (e : H' a = H a) (h : ObjR K cl ρ H a o) : ObjR K cl ρ' H' a o := by
  cases o with
  | lst ws => obtain ⟨xs, h1, h2⟩ := h; exact ⟨xs, e.trans h1, ValsR.keep f h2⟩
  | dct ws => obtain ⟨xs, h1, h2⟩ := h; exact ⟨xs, e.trans h1, KvR.keep f h2⟩
  | ins c ws => obtain ⟨C, dx, xs, hc, h1, h2, h3⟩ := h; exact ⟨C, dx, xs, hc, e.trans h1, KvR.keep f h2, h3⟩
theorem ValR.stay (R : Rel K cl ρ vh H) (f : Fr ρ H ρ' H') {w : W} {v : V} (h : ValR K ρ H w v) : ValR K ρ' H' w v := ValR.keep (f.kp R) h
theorem ValsR.stay (R : Rel K cl ρ vh H) (f : Fr ρ H ρ' H') {ws : List W} {vs : List V} (h : ValsR K ρ H ws vs) : ValsR K ρ' H' ws vs := ValsR.keep (f.kp R) h
theorem KvR.stay {κ : Type} (R : Rel K cl ρ vh H) (f : Fr ρ H ρ' H') {ws : List (κ × W)} {vs : List (κ × V)} (h : KvR K ρ H ws vs) : KvR K ρ' H' ws vs := KvR.keep (f.kp R) h
theorem ObjR.stay (R : Rel K cl ρ vh H) (f : Fr ρ H ρ' H') {a : Addr} {o : O} (e : H' a = H a) (h : ObjR K cl ρ H a o) : ObjR K cl ρ' H' a o := ObjR.keep (f.kp R) e h

/-! ### lists of values -/
theorem ValsR.nil : ValsR K ρ H [] [] := by unfold ValsR; rfl
theorem ValsR.cons {w : W} {v : V} {ws : List W} {vs : List V} (h : ValR K ρ H w v) (hs : ValsR K ρ H ws vs) : ValsR K ρ H (w :: ws) (v :: vs) := by
  unfold ValsR; exact ⟨v, vs, rfl, h, hs⟩
theorem ValsR.uncons {w : W} {ws : List W} {vs : List V} (h : ValsR K ρ H (w :: ws) vs) : ∃ x xs, vs = x :: xs ∧ ValR K ρ H w x ∧ ValsR K ρ H ws xs := by
  unfold ValsR at h; exact h
theorem ValsR.nil_inv {vs : List V} (h : ValsR K ρ H [] vs) : vs = [] := by unfold ValsR at h; exact h
theorem ValsR.length : ∀ {ws : List W} {vs : List V}, ValsR K ρ H ws vs → vs.length = ws.length
  | [], _, h => by rw [h.nil_inv]; rfl
  | w :: ws, _, h => by
    obtain ⟨x, xs, rfl, _, h2⟩ := h.uncons
    rw [List.length_cons, List.length_cons, ValsR.length h2]
theorem ValsR.get : ∀ {ws : List W} {vs : List V} {i : Nat} {w : W}, ValsR K ρ H ws vs → ws[i]? = some w → ∃ v, vs[i]? = some v ∧ ValR K ρ H w v
  | [], _, i, _, _, h => by simp at h
  | w :: ws, _, 0, _, h, e => by
    obtain ⟨x, xs, rfl, h1, h2⟩ := h.uncons
    simp at e; subst e
    exact ⟨x, rfl, h1⟩
  | w :: ws, _, i + 1, _, h, e => by
    obtain ⟨x, xs, rfl, h1, h2⟩ := h.uncons
    simp at e
    obtain ⟨v, hv, hr⟩ := ValsR.get h2 e
    exact ⟨v, by simpa using hv, hr⟩
theorem ValsR.append : ∀ {ws us : List W} {vs xs : List V}, ValsR K ρ H ws vs → ValsR K ρ H us xs → ValsR K ρ H (ws ++ us) (vs ++ xs)
  | [], _, _, _, h, h' => by rw [h.nil_inv]; exact h'
  | w :: ws, _, _, _, h, h' => by
    obtain ⟨x, xs, rfl, h1, h2⟩ := h.uncons
    exact .cons h1 (ValsR.append h2 h')
theorem ValsR.take : ∀ {ws : List W} {vs : List V} (n : Nat), ValsR K ρ H ws vs → ValsR K ρ H (ws.take n) (vs.take n)
  | _, _, 0, _ => by simpa using ValsR.nil
  | [], _, n + 1, h => by rw [h.nil_inv]; simpa using ValsR.nil
  | w :: ws, _, n + 1, h => by
    obtain ⟨x, xs, rfl, h1, h2⟩ := h.uncons
    simpa using .cons h1 (ValsR.take n h2)
theorem ValsR.drop : ∀ {ws : List W} {vs : List V} (n : Nat), ValsR K ρ H ws vs → ValsR K ρ H (ws.drop n) (vs.drop n)
  | _, _, 0, h => by simpa using h
  | [], _, n + 1, h => by rw [h.nil_inv]; simpa using ValsR.nil
  | w :: ws, _, n + 1, h => by
    obtain ⟨x, xs, rfl, h1, h2⟩ := h.uncons
    simpa using ValsR.drop n h2
theorem ValsR.set : ∀ {ws : List W} {vs : List V} {w : W} {v : V} (n : Nat), ValsR K ρ H ws vs → ValR K ρ H w v → ValsR K ρ H (ws.set n w) (vs.set n v)
  | [], _, _, _, n, h, _ => by rw [h.nil_inv]; simpa using ValsR.nil
  | u :: ws, _, _, _, 0, h, hw => by
    obtain ⟨x, xs, rfl, h1, h2⟩ := h.uncons
    simpa using .cons hw h2
  | u :: ws, _, _, _, n + 1, h, hw => by
    obtain ⟨x, xs, rfl, h1, h2⟩ := h.uncons
    simpa using .cons h1 (ValsR.set n h2 hw)
theorem ValsR.reverse : ∀ {ws : List W} {vs : List V}, ValsR K ρ H ws vs → ValsR K ρ H ws.reverse vs.reverse
  | [], _, h => by rw [h.nil_inv]; simpa using ValsR.nil
  | w :: ws, _, h => by
    obtain ⟨x, xs, rfl, h1, h2⟩ := h.uncons
    rw [List.reverse_cons, List.reverse_cons]
    exact (ValsR.reverse h2).append (.cons h1 .nil)
theorem ValsR.rep {ws : List W} {vs : List V} (h : ValsR K ρ H ws vs) : ∀ n : Nat, ValsR K ρ H (List.replicate n ws).flatten (List.replicate n vs).flatten
  | 0 => by simpa using ValsR.nil
  | n + 1 => by
    rw [List.replicate_succ, List.replicate_succ, List.flatten_cons, List.flatten_cons]
    exact h.append (ValsR.rep h n)
theorem ValsR.ints : ∀ {ws : List W} {vs : List V} {ns : List Int}, ValsR K ρ H ws vs → intsOf ws = some ns → vs = ns.map V.int
  | [], _, _, h, e => by rw [h.nil_inv]; simp [intsOf] at e; subst e; rfl
  | .int i :: ws, _, _, h, e => by
    obtain ⟨x, xs, rfl, h1, h2⟩ := h.uncons
    simp only [intsOf, Option.map_eq_some_iff] at e
    obtain ⟨ms, e1, rfl⟩ := e
    rw [ValsR.ints h2 e1, List.map_cons]
    unfold ValR at h1; rw [h1]
  | .non :: _, _, _, _, e => by simp [intsOf] at e
  | .bl _ :: _, _, _, _, e => by simp [intsOf] at e
  | .str _ :: _, _, _, _, e => by simp [intsOf] at e
  | .tup _ :: _, _, _, _, e => by simp [intsOf] at e
  | .rol _ :: _, _, _, _, e => by simp [intsOf] at e
  | .ref _ :: _, _, _, _, e => by simp [intsOf] at e
theorem ValsR.strs : ∀ {ws : List W} {vs : List V} {ns : List Str}, ValsR K ρ H ws vs → strsOf ws = some ns → vs = ns.map V.str
  | [], _, _, h, e => by rw [h.nil_inv]; simp [strsOf] at e; subst e; rfl
  | .str i :: ws, _, _, h, e => by
    obtain ⟨x, xs, rfl, h1, h2⟩ := h.uncons
    simp only [strsOf, Option.map_eq_some_iff] at e
    obtain ⟨ms, e1, rfl⟩ := e
    rw [ValsR.strs h2 e1, List.map_cons]
    unfold ValR at h1; rw [h1]
  | .non :: _, _, _, _, e => by simp [strsOf] at e
  | .bl _ :: _, _, _, _, e => by simp [strsOf] at e
  | .int _ :: _, _, _, _, e => by simp [strsOf] at e
  | .tup _ :: _, _, _, _, e => by simp [strsOf] at e
  | .rol _ :: _, _, _, _, e => by simp [strsOf] at e
  | .ref _ :: _, _, _, _, e => by simp [strsOf] at e
theorem ValsR.bls : ∀ {ws : List W} {vs : List V} {ns : List Bool}, ValsR K ρ H ws vs → blsOf ws = some ns → vs = ns.map V.bl
  | [], _, _, h, e => by rw [h.nil_inv]; simp [blsOf] at e; subst e; rfl
  | .bl i :: ws, _, _, h, e => by
    obtain ⟨x, xs, rfl, h1, h2⟩ := h.uncons
    simp only [blsOf, Option.map_eq_some_iff] at e
    obtain ⟨ms, e1, rfl⟩ := e
    rw [ValsR.bls h2 e1, List.map_cons]
    unfold ValR at h1; rw [h1]
  | .non :: _, _, _, _, e => by simp [blsOf] at e
  | .str _ :: _, _, _, _, e => by simp [blsOf] at e
  | .int _ :: _, _, _, _, e => by simp [blsOf] at e
  | .tup _ :: _, _, _, _, e => by simp [blsOf] at e
  | .rol _ :: _, _, _, _, e => by simp [blsOf] at e
  | .ref _ :: _, _, _, _, e => by simp [blsOf] at e

/-! ### the heap grows, an object is written -/
theorem Fr.new {p : Addr} {u : HO} (h : H p = none) : Fr ρ H ρ (upd H p u) := by
  refine ⟨⟨[], by simp⟩, fun a o ho n => ⟨?_, n⟩⟩
  rw [upd_ne (by rintro rfl; rw [h] at ho; cases ho)]; exact ho
theorem Fr.alloc {p : Addr} {u : HO} (h : H p = none) : Fr ρ H (ρ ++ [p]) (upd H p u) := by
  refine ⟨⟨[p], rfl⟩, fun a o ho n => ?_⟩
  have hne : a ≠ p := by rintro rfl; rw [h] at ho; cases ho
  exact ⟨by rw [upd_ne hne]; exact ho, by simp [n, hne]⟩
theorem Fr.write {r : Nat} {a : Addr} {u : HO} (h : ρ[r]? = some a) : Fr ρ H ρ (upd H a u) := by
  refine ⟨⟨[], by simp⟩, fun b o ho n => ⟨?_, n⟩⟩
  rw [upd_ne (by rintro rfl; exact n (List.mem_of_getElem? h))]; exact ho
/-- a new tuple: nothing of ours -/
theorem Rel.new (R : Rel K cl ρ vh H) {p : Addr} {u : HO} (h : H p = none) : Rel K cl ρ vh (upd H p u) := by
  refine ⟨R.len, fun r o a h1 h2 => ?_, R.inj⟩
  refine (R.obj r o a h1 h2).stay R (Fr.new h) (upd_ne ?_)
  rintro rfl
  obtain ⟨u, e, _⟩ := R.track (List.mem_of_getElem? h2)
  rw [h] at e; cases e
theorem Rel.alloc (R : Rel K cl ρ vh H) {p : Addr} {u : HO} {o : O} (h : H p = none) (ho : ObjR K cl (ρ ++ [p]) (upd H p u) p o) : Rel K cl (ρ ++ [p]) (vh ++ [o]) (upd H p u) := by
  have np : p ∉ ρ := fun z => by
    obtain ⟨u, e, _⟩ := R.track z
    rw [h] at e; cases e
  have hlast : ∀ r a, (ρ ++ [p])[r]? = some a → (r < ρ.length ∧ ρ[r]? = some a) ∨ (r = ρ.length ∧ a = p) := fun r a e => by
    by_cases hr : r < ρ.length
    · exact .inl ⟨hr, by rw [List.getElem?_append_left hr] at e; exact e⟩
    · rw [List.getElem?_append_right (by omega)] at e
      by_cases h0 : r - ρ.length = 0
      · rw [h0] at e; simp at e
        exact .inr ⟨by omega, e.symm⟩
      · rw [List.getElem?_eq_none (by simp; omega)] at e; cases e
  refine ⟨by simp [R.len], fun r o' a h1 h2 => ?_, fun r r' a h1 h2 => ?_⟩
  · rcases hlast r a h2 with ⟨hr, e⟩ | ⟨hr, rfl⟩
    · rw [List.getElem?_append_left (by rw [← R.len]; exact hr)] at h1
      exact (R.obj r o' a h1 e).stay R (Fr.alloc h) (upd_ne (by rintro rfl; exact np (List.mem_of_getElem? e)))
    · rw [hr, R.len, List.getElem?_append_right (Nat.le_refl _)] at h1
      simp at h1; subst h1; exact ho
  · rcases hlast r a h1 with ⟨hr, e⟩ | ⟨hr, rfl⟩
    · rcases hlast r' a h2 with ⟨hr', e'⟩ | ⟨hr', rfl⟩
      · exact R.inj r r' a e e'
      · exact absurd (List.mem_of_getElem? e) np
    · rcases hlast r' a h2 with ⟨hr', e'⟩ | ⟨hr', _⟩
      · exact absurd (List.mem_of_getElem? e') np
      · omega
theorem Rel.write (R : Rel K cl ρ vh H) {r : Nat} {a : Addr} {u : HO} {o : O} (h : ρ[r]? = some a) (ho : ObjR K cl ρ (upd H a u) a o) : Rel K cl ρ (vh.set r o) (upd H a u) := by
  refine ⟨by simp [R.len], fun r' o' b h1 h2 => ?_, R.inj⟩
  by_cases hb : r' = r
  · subst hb
    rw [h] at h2; cases h2
    have hl : r' < vh.length := by rw [← R.len]; exact (List.getElem?_eq_some_iff.mp h).1
    rw [List.getElem?_set_self hl] at h1; cases h1
    exact ho
  · rw [List.getElem?_set_ne (Ne.symm hb)] at h1
    exact (R.obj r' o' b h1 h2).stay R (Fr.write h) (upd_ne (by rintro rfl; exact hb (R.inj _ _ _ h2 h)))
theorem Fr.adopt {ρ0 : List Addr} {H0 : Hp} (f : Fr ρ0 H0 ρ H) {D : Addr} (h : H0 D = none) : Fr ρ0 H0 (ρ ++ [D]) H := by
  obtain ⟨m, e⟩ := f.pre
  refine ⟨⟨m ++ [D], by rw [e, List.append_assoc]⟩, fun a o ho n => ?_⟩
  obtain ⟨h1, n1⟩ := f.keep a o ho n
  exact ⟨h1, by simp only [List.mem_append, List.mem_singleton, not_or]; exact ⟨n1, by rintro rfl; rw [h] at ho; cases ho⟩⟩
/-- it is written, while nobody minds -/
theorem Fr.side {ρ0 : List Addr} {H0 : Hp} (f : Fr ρ0 H0 ρ H) {D : Addr} {u : HO} (h : H0 D = none) : Fr ρ0 H0 ρ (upd H D u) :=
  ⟨f.pre, fun a o ho n => let ⟨h1, n1⟩ := f.keep a o ho n; ⟨by rw [upd_ne (by rintro rfl; rw [h] at ho; cases ho)]; exact h1, n1⟩⟩
theorem Kp.sideG {D : Addr} {u : HO} (h1 : ∀ xs, H D ≠ some (.tup xs)) (h2 : ∀ o v, H D ≠ some (.frz o v)) : Kp K ρ H ρ (upd H D u) := by
  have n1 : ∀ a xs, H a = some (.tup xs) → a ≠ D := fun a xs e z => by subst z; exact h1 _ e
  have n2 : ∀ a o v, H a = some (.frz o v) → a ≠ D := fun a o v e z => by subst z; exact h2 _ _ e
  refine ⟨fun _ _ h => h, fun a ys q => ?_, fun a ys q => ?_⟩
  · rcases q with (q | ⟨o, q⟩) | q
    · exact .inl (.inl (by rw [upd_ne (n1 a _ q)]; exact q))
    · exact .inl (.inr ⟨o, by rw [upd_ne (n2 a _ _ q)]; exact q⟩)
    · exact .inr q
  · rcases q with ⟨o, q⟩ | q
    · exact .inl ⟨o, by rw [upd_ne (n2 a _ _ q)]; exact q⟩
    · exact .inr q
theorem Rel.sideG (R : Rel K cl ρ vh H) {D : Addr} {u : HO} (h1 : ∀ xs, H D ≠ some (.tup xs)) (h2 : ∀ o v, H D ≠ some (.frz o v)) (n : D ∉ ρ) : Rel K cl ρ vh (upd H D u) :=
  ⟨R.len, fun r o a q1 q2 => (R.obj r o a q1 q2).keep (Kp.sideG h1 h2) (upd_ne (by rintro rfl; exact n (List.mem_of_getElem? q2))), R.inj⟩
theorem Kp.more {D : Addr} : Kp K ρ H (ρ ++ [D]) H := ⟨fun r a e => by rw [List.getElem?_append_left (List.getElem?_eq_some_iff.mp e).1]; exact e, fun _ _ h => h, fun _ _ h => h⟩
theorem Rel.adoptG (R : Rel K cl ρ vh H) {D : Addr} {o : O} (n : D ∉ ρ) (ho : ObjR K cl (ρ ++ [D]) H D o) : Rel K cl (ρ ++ [D]) (vh ++ [o]) H := by
  have hlast : ∀ (r : Nat) (a : Addr), (ρ ++ [D])[r]? = some a → (r < ρ.length ∧ ρ[r]? = some a) ∨ (r = ρ.length ∧ a = D) := fun r a e => by
    by_cases hr : r < ρ.length
    · exact .inl ⟨hr, by rw [List.getElem?_append_left hr] at e; exact e⟩
    · rw [List.getElem?_append_right (by omega)] at e
      by_cases h0 : r - ρ.length = 0
      · rw [h0] at e; simp at e
        exact .inr ⟨by omega, e.symm⟩
      · rw [List.getElem?_eq_none (by simp; omega)] at e; cases e
  refine ⟨by simp [R.len], fun r o' a h1 h2 => ?_, fun r r' a h1 h2 => ?_⟩
  · rcases hlast r a h2 with ⟨hr, e⟩ | ⟨hr, rfl⟩
    · rw [List.getElem?_append_left (by rw [← R.len]; exact hr)] at h1
      exact (R.obj r o' a h1 e).keep Kp.more rfl
    · rw [hr, R.len, List.getElem?_append_right (Nat.le_refl _)] at h1
      simp at h1; subst h1
      exact ho
  · rcases hlast r a h1 with ⟨hr, e⟩ | ⟨hr, rfl⟩
    · rcases hlast r' a h2 with ⟨hr', e'⟩ | ⟨hr', rfl⟩
      · exact R.inj r r' a e e'
      · exact absurd (List.mem_of_getElem? e) n
    · rcases hlast r' a h2 with ⟨hr', e'⟩ | ⟨hr', _⟩
      · exact absurd (List.mem_of_getElem? e') n
      · omega
theorem Rel.free (R : Rel K cl ρ vh H) {p : Addr} (h : H p = none) : p ∉ ρ := fun z => by
  obtain ⟨u, e, _⟩ := R.track z
  rw [h] at e; cases e
theorem Rel.at (R : Rel K cl ρ vh H) {r : Nat} {a : Addr} {o : O} (hr : ρ[r]? = some a) (h : vh[r]? = some o) : ObjR K cl ρ H a o := R.obj r o a h hr
theorem Rel.fresh (R : Rel K cl ρ vh H) {p : Addr} : (ρ ++ [p])[vh.length]? = some p := by rw [← R.len]; simp
end

/-! ### names -/
def EnvR (K : PySem.W.Frag) (N : List Str) (ρ : List Addr) (H : Hp) (env : Env) (σ : L2.St) : Prop :=
  σ.length = N.length ∧ ∀ i w, env i = some w → ∃ v, σ[i]? = some (some v) ∧ ValR K ρ H w v
section
variable {K : PySem.W.Frag} {cl : Nat → Option Addr} {N : List Str} {ρ ρ' : List Addr} {vh : VH} {H H' : Hp} {env : Env} {σ : L2.St}
theorem EnvR.stay (R : Rel K cl ρ vh H) (f : Fr ρ H ρ' H') (h : EnvR K N ρ H env σ) : EnvR K N ρ' H' env σ :=
  ⟨h.1, fun i w e => let ⟨v, h1, h2⟩ := h.2 i w e; ⟨v, h1, ValR.stay R f h2⟩⟩
theorem EnvR.set (h : EnvR K N ρ H env σ) {i : Nat} {w : W} {v : V} (hi : i < N.length) (hv : ValR K ρ H w v) : EnvR K N ρ H (setv env i w) (σ.set i (some v)) := by
  refine ⟨by rw [List.length_set]; exact h.1, fun j u e => ?_⟩
  unfold setv at e
  by_cases hj : j = i
  · subst hj
    rw [if_pos rfl] at e; cases e
    exact ⟨v, by rw [List.getElem?_set_self (by rw [h.1]; exact hi)], hv⟩
  · rw [if_neg hj] at e
    obtain ⟨x, h1, h2⟩ := h.2 j u e
    exact ⟨x, by rw [List.getElem?_set_ne (Ne.symm hj)]; exact h1, h2⟩
theorem wipe_out' {σ : L2.St} {i : Nat} : ∀ {vs : List Nat}, i ∉ vs → (wipe σ vs)[i]? = σ[i]?
  | [], _ => rfl
  | v :: vs, h => by
    unfold wipe
    rw [List.getElem?_set_ne (by rintro rfl; exact h (by simp))]
    exact wipe_out' (fun z => h (by simp [z]))
theorem EnvR.wipe (h : EnvR K N ρ H env σ) (own : List Nat) : EnvR K N ρ H (wipeE env own) (L2.wipe σ own) := by
  refine ⟨by rw [wipe_length]; exact h.1, fun j u e => ?_⟩
  unfold wipeE at e
  by_cases hj : j ∈ own
  · rw [if_pos hj] at e; cases e
  · rw [if_neg hj] at e
    obtain ⟨x, h1, h2⟩ := h.2 j u e
    exact ⟨x, by rw [wipe_out' hj]; exact h1, h2⟩
end
end Nw

set_option Elab.async false
set_option linter.all false
set_option maxRecDepth 100000
/-! Nw, part C: when the evaluator's tree is the program's. -/
namespace Nw
open PySem PySem.Spec PyProof.Rows L2

structure GN where
  fn : List (Option Str)
  cls : List Str := []

def okNm (x : Str) : Bool := !(x == ("__debug__" : Str)) && !(x == ("__classdict__" : Str)) && !(x == ("__name__" : Str))
def visB (sc : Scope) (x : Str) : Bool := match sc.names.lookup x with | some .local => true | some .cell => true | some .free => true | _ => false
def locB (sc : Scope) (x : Str) : Bool := match sc.names.lookup x with | some .local => true | some .cell => true | _ => false
def glbB (sc : Scope) (x : Str) : Bool := match sc.names.lookup x with | some .globalImplicit => true | _ => false
def bopB : Bop → Operator → Bool
  | .add, .Add | .sub, .Sub | .mul, .Mult | .fdiv, .FloorDiv | .mod, .Mod | .pow, .Pow | .shl, .LShift | .shr, .RShift | .band, .BitAnd | .bor, .BitOr | .bxor, .BitXor => true
  | _, _ => false
def copB : Cop → CmpOp → Bool
  | .eq, .Eq | .ne, .NotEq | .lt, .Lt | .le, .LtE | .gt, .Gt | .ge, .GtE | .is, .Is | .isn, .IsNot | .isin, .In | .notin, .NotIn => true
  | _, _ => false
def biNm : Bi → Str
  | .len => "len" | .abs => "abs" | .int => "int" | .str => "str" | .list => "list" | .tuple => "tuple" | .max => "max" | .min => "min" | .sum => "sum" | .sorted => "sorted" | .repr => "repr" | .all => "all"
def tyNm : Ty → Str
  | .tuple => "tuple" | .list => "list" | .str => "str" | .int => "int" | .bool => "bool" | .dict => "dict"
def notStar : Expr → Bool | .Starred _ _ => false | _ => true
def notSet : Expr → Bool | .Set _ _ _ => false | _ => true
def notSlice : Expr → Bool | .Slice _ _ _ _ => false | _ => true
/-- a test that is its value's truth -/
def plainT : Expr → Bool | .UnaryOp .Not _ _ => false | .BoolOp _ _ _ => false | .IfExp _ _ _ _ => false | .Compare _ _ _ _ => false | _ => true
def notComp : Expr → Bool | .ListComp _ _ _ _ => false | .SetComp _ _ _ _ => false | .DictComp _ _ _ _ _ => false | _ => true
def notSup : Expr → Bool | .Call (.Name _ _) [] [] _ => false | _ => true
def cstB : W → Expr → Bool
  | .non, .Constant .none _ _ => true
  | .bl b, .Constant (.bool c) _ _ => b == c
  | .int i, .Constant (.int j) _ _ => decide (i = j)
  | .str s, .Constant (.str t) _ _ => decide (s = t)
  | _, _ => false
def keyB : Key → Option Expr → Bool
  | .inl i, some (.Constant (.int j) _ _) => decide (i = j)
  | .inr s, some (.Constant (.str t) _ _) => decide (s = t)
  | _, _ => false
def keysB : List Key → List (Option Expr) → Bool
  | [], [] => true
  | k :: ks, e :: es => keyB k e && keysB ks es
  | _, _ => false
/-- what is walked: the arguments -/
def itArgs (sc : Scope) : IK → Expr → Option (List Expr)
  | .plain, e => if notSet e then some [e] else none
  | .range, .Call (.Name x _) es [] _ => if decide (x = ("range" : Str)) && glbB sc x then some es else none
  | _, _ => none
mutual
/-- its names are among these slots -/
def tnIn (own : List Nat) : TN → Bool
  | .nm i => decide (i ∈ own)
  | .tp ts => tnIns own ts
def tnIns (own : List Nat) : List TN → Bool
  | [] => true
  | t :: ts => tnIn own t && tnIns own ts
end
section
variable (N : List Str)
mutual
def chkTN (loc : Str → Bool) : TN → Expr → Bool
  | .nm i, .Name x _ => decide (N[i]? = some x) && loc x
  | .tp ts, .Tuple es _ _ => chkTNs loc ts es
  | _, _ => false
def chkTNs (loc : Str → Bool) : List TN → List Expr → Bool
  | [], [] => true
  | t :: ts, e :: es => notStar e && chkTN loc t e && chkTNs loc ts es
  | _, _ => false
end
section
variable (G : GN)
mutual
def chkE (sc : Scope) : E → Expr → Bool
  | .var i, .Name x _ => decide (N[i]? = some x) && visB sc x && okNm x
  | .cst w, e => cstB w e
  | .gl x, .Name y _ => decide (x = y) && glbB sc y && okNm y
  | .bin o a b, .BinOp a' o' b' _ => bopB o o' && chkE sc a a' && chkE sc b b'
  | .neg a, .UnaryOp .USub a' _ => chkE sc a a'
  | .nt a, .UnaryOp .Not a' _ => chkE sc a a'
  | .cmp o a b, .Compare a' [o'] [b'] _ => copB o o' && notSet b' && chkE sc a a' && chkE sc b b'
  | .chn o p a b c, .Compare a' [o', p'] [b', c'] _ => copB o o' && copB p p' && notSet b' && notSet c' && chkE sc a a' && chkE sc b b' && chkE sc c c'
  | .and es, .BoolOp .And es' _ => chkEs sc es es' && !es.isEmpty
  | .or es, .BoolOp .Or es' _ => chkEs sc es es' && !es.isEmpty
  | .ite c a b, .IfExp c' a' b' _ => chkE sc c c' && chkE sc a a' && chkE sc b b'
  | .tup es, .Tuple es' _ _ => chkEs sc es es'
  | .lst es, .List es' _ => chkEs sc es es'
  | .dct ks es, .Dict ks' es' _ => keysB ks ks' && chkEs sc es es' && decide (es.length = ks.length) && decide (ks.length ≤ 15)
  | .ix a b, .Subscript a' b' _ => notSlice b' && chkE sc a a' && chkE sc b b'
  | .sl a lo hi, .Subscript a' (.Slice lo' hi' none _) _ => chkE sc a a' && chkO sc lo lo' && chkO sc hi hi'
  | .call f es, .Call (.Name x _) es' [] _ => decide (G.fn[f]? = some (some x)) && glbB sc x && okNm x && chkEs sc es es'
  | .bi f es, .Call (.Name x _) es' [] _ => decide (biNm f = x) && glbB sc x && chkEs sc es es' && !es.isEmpty
  | .isi a t, .Call (.Name x _) [a', .Name y _] [] _ => decide (x = ("isinstance" : Str)) && glbB sc x && decide (y = tyNm t) && glbB sc y && notStar a' && chkE sc a a'
  | .new c es, .Call (.Name x _) es' [] _ => decide (G.cls[c]? = some x) && glbB sc x && okNm x && chkEs sc es es'
  | .trg es, .Call (.Name x _) [.Call (.Name y _) es' [] _] [] _ => decide (x = ("tuple" : Str)) && glbB sc x && decide (y = ("range" : Str)) && glbB sc y && chkEs sc es es'
  | .fld o f, .Attribute o' f' _ => decide (f = f') && notSup o' && chkE sc o o'
  | .mth o m es, .Call (.Attribute o' m' ap) es' [] cp => decide (m = m') && notSup o' && chkE sc o o' && chkEs sc es es' && decide (ap.endLine = cp.line) && decide (es.length < 20)
  | .lc elt own tg k it cs, .ListComp elt' [⟨tg', it', ifs', a⟩] scope _ => decide (a = 0) && tnIn own tg && notSet it' && blkC N sc scope (own.map fun i => ((N[i]?).getD Str.empty, i)) &&
      chkTN N (locB scope) tg tg' && (match itArgs sc k it' with | some es => chkEs sc it es | none => false) && chkEs (relS scope sc) cs ifs' && decide (cs.length ≤ 1) && chkE (relS scope sc) elt elt'
  | _, _ => false
def chkEs (sc : Scope) : List E → List Expr → Bool
  | [], [] => true
  | a :: as, e :: es => notStar e && chkE sc a e && chkEs sc as es
  | _, _ => false
def chkO (sc : Scope) : Option E → Option Expr → Bool
  | none, none => true
  | some a, some e => chkE sc a e
  | _, _ => false
end
mutual
def chkT (sc : Scope) : Tg → Expr → Bool
  | .nm i, .Name x _ => decide (N[i]? = some x) && locB sc x
  | .tp ts, .Tuple es _ _ => chkTs sc ts es
  | .sub o i, .Subscript o' i' _ => notSlice i' && chkE N G sc o o' && chkE N G sc i i'
  | .att o f, .Attribute o' f' _ => decide (f = f') && chkE N G sc o o'
  | _, _ => false
def chkTs (sc : Scope) : List Tg → List Expr → Bool
  | [], [] => true
  | t :: ts, e :: es => notStar e && chkT sc t e && chkTs sc ts es
  | _, _ => false
end
/-- o[lo:hi] = e -/
def slsOf : Stmt → Option (Expr × Expr × Expr × Expr)
  | .Assign [.Subscript o' (.Slice (some lo') (some hi') none _) _] e' _ => some (o', lo', hi', e')
  | _ => none
theorem slsOf_inv {s : Stmt} {q : Expr × Expr × Expr × Expr} (h : slsOf s = some q) : ∃ p2 p3 pos, s = .Assign [.Subscript q.1 (.Slice (some q.2.1) (some q.2.2.1) none p2) p3] q.2.2.2 pos := by
  unfold slsOf at h
  split at h
  · cases h; exact ⟨_, _, _, rfl⟩
  · cases h
/-- stores over names alone, from the right: the names; some none: no; none: not known -/
def swp (sc : Scope) (ts vs : List Expr) : Option (Option (List Str)) :=
  if (!(ts.length == 2 || ts.length == 3) || vs.length != ts.length) = true then some none
  else if (vs.any fun | .Starred .. => true | _ => false) = true then some none
  else
    let line := (ts.head?.map (·.pos.line)).getD 0
    let names := ts.filterMap fun
      | .Name id pos => if sc.names.lookup id == some .local && pos.line == line then some id else none
      | _ => none
    if (names.length != ts.length || names.eraseDups.length != names.length) = true then some none
    else if vs.all (foldedForSure 8) = true then some none
    else if vs.all (constantsAlone 8) = true then none
    else some (some names)
def par2B (sc : Scope) (x y : Str) : List Expr → List Expr → Bool
  | [.Name a _, .Name b _], [_, _] => decide (a = x) && decide (b = y) && decide (sc.names.lookup x = some .local) && decide (sc.names.lookup y = some .local) && decide (x ≠ y)
  | _, _ => false
def par3B (sc : Scope) (x y z : Str) : List Expr → List Expr → Bool
  | [.Name a _, .Name b _, .Name c _], [_, _, _] => decide (a = x) && decide (b = y) && decide (c = z) && decide (sc.names.lookup x = some .local) && decide (sc.names.lookup y = some .local) && decide (sc.names.lookup z = some .local) &&
      decide (x ≠ y) && decide (x ≠ z) && decide (y ≠ z)
  | _, _ => false
def tupB (sc : Scope) (ts vs : List Expr) : Bool := match swp sc ts vs with
  | some none => true
  | some (some [x, y]) => par2B sc x y ts vs
  | some (some [x, y, z]) => par3B sc x y z ts vs
  | _ => false
def setB (sc : Scope) (t e : Expr) : Bool := match t, e with
  | .Tuple ts _ _, .Tuple vs _ _ => tupB sc ts vs
  | _, .SetComp _ _ _ _ => false
  | _, .DictComp _ _ _ _ _ => false
  | _, _ => true
mutual
def chkS (sc : Scope) : Sm → Stmt → Bool
  | .ex e, .Expr e' _ => notComp e' && chkE N G sc e e'
  | .set t e, .Assign [t'] e' _ => notStar t' && setB sc t' e' && chkE N G sc e e' && chkT N G sc t t'
  | .augN i o e, .AugAssign (.Name x _) o' e' _ => decide (N[i]? = some x) && locB sc x && bopB o o' && chkE N G sc e e'
  | .augS o i p e, .AugAssign (.Subscript o' i' _) p' e' _ => notSlice i' && bopB p p' && chkE N G sc o o' && chkE N G sc i i' && chkE N G sc e e'
  | .augA o f p e, .AugAssign (.Attribute o' f' _) p' e' _ => decide (f = f') && bopB p p' && chkE N G sc o o' && chkE N G sc e e'
  | .bad, .Raise _ _ _ => true
  | .slS o lo hi e, s => match slsOf s with | some (o', lo', hi', e') => notComp e' && chkE N G sc e e' && chkE N G sc o o' && chkE N G sc lo lo' && chkE N G sc hi hi' | none => false
  | .ret none, .Return none _ => true
  | .ret (some e), .Return (some e') _ => chkE N G sc e e'
  | .ife c a b, .If c' a' b' _ => chkE N G sc c c' && chkSs sc a a' && chkSs sc b b'
  | .whl c b, .While c' b' [] _ => chkE N G sc c c' && chkSs sc b b'
  | .for t k it b, .For t' it' b' [] _ => notSet it' && chkTN N (locB sc) t t' && (match itArgs sc k it' with | some es => chkEs N G sc it es | none => false) && chkSs sc b b'
  | .pass, .Pass _ => true
  | .brk, .Break _ => true
  | .cont, .Continue _ => true
  | _, _ => false
def chkSs (sc : Scope) : List Sm → List Stmt → Bool
  | [], [] => true
  | a :: as, s :: ss => chkS sc a s && chkSs sc as ss
  | _, _ => false
end
end
end
end Nw

set_option Elab.async false
set_option linter.all false
set_option maxRecDepth 100000
set_option maxHeartbeats 1000000
/-! Nw, part D: the operators, by values. -/
namespace Nw
open PySem PySem.Spec PyProof.Rows L2

theorem line_eq : line = sizeLine := sizeLine_eq.symm

section
variable {K : PySem.W.Frag} {ρ : List Addr} {H : Hp} {v : V}
theorem vr_non : ValR K ρ H .non v ↔ v = .non := by unfold ValR; exact Iff.rfl
theorem vr_bl {b : Bool} : ValR K ρ H (.bl b) v ↔ v = .bl b := by unfold ValR; exact Iff.rfl
theorem vr_int {i : Int} : ValR K ρ H (.int i) v ↔ v = .int i := by unfold ValR; exact Iff.rfl
theorem vr_str {s : Str} : ValR K ρ H (.str s) v ↔ v = .str s := by unfold ValR; exact Iff.rfl
theorem vr_tup {ws : List W} : ValR K ρ H (.tup ws) v ↔ ∃ a xs, v = .ref a ∧ SqT K H a xs ∧ ValsR K ρ H ws xs := by unfold ValR; exact Iff.rfl
theorem vr_rol {ws : List W} : ValR K ρ H (.rol ws) v ↔ ∃ a xs, v = .ref a ∧ RoL K H a xs ∧ ValsR K ρ H ws xs := by unfold ValR; exact Iff.rfl
theorem vr_ref {r : Nat} : ValR K ρ H (.ref r) v ↔ ∃ a, v = .ref a ∧ ρ[r]? = some a := by unfold ValR; exact Iff.rfl
end

/-! ### what is wanted, by values, of any operation -/
def WO (X : Cx) (f : Value → Value → Sem Value) : R2 := fun x y H Q => ∀ (pins : List (Addr × Obj)) (s : Shared) (σ : L2.St) (v u : Value), Inv X pins σ H s → RelV x v → RelV y u → wpAny (model X.prog X.w) X.A (f v u) (EP X pins σ Q) X.xe s
theorem oWO {X : Cx} {f : Value → Value → Sem Value} : OpR X f (WO X f) := fun pins s σ H x y v u Q I rx ry h => h pins s σ v u I rx ry
theorem WO.of {X : Cx} {f : Value → Value → Sem Value} {r : R2} (h : OpR X f r) {x y : V} {H : Hp} {Q : VK} (q : r x y H Q) : WO X f x y H Q := fun pins s σ v u I rx ry => h pins s σ H x y v u Q I rx ry q
def WC (X : Cx) (f : Value) : List V → Hp → VK → Prop := fun xs H Q => ∀ (pins : List (Addr × Obj)) (s : Shared) (σ : L2.St) (us : List Value), Inv X pins σ H s → Vals xs us → wpAny (model X.prog X.w) X.A (call f us) (EP X pins σ Q) X.xe s
theorem cWC {X : Cx} {f : Value} : CallR X f (WC X f) := fun pins s σ H xs us Q I rx h => h pins s σ us I rx
theorem WC.of {X : Cx} {f : Value} {r : List V → Hp → VK → Prop} (h : CallR X f r) {xs : List V} {H : Hp} {Q : VK} (q : r xs H Q) : WC X f xs H Q := fun pins s σ us I rx => h pins s σ H xs us Q I rx q

section
variable {X : Cx} {cl : Nat → Option Addr} {ρ : List Addr} {vh vh' : VH} {H : Hp} {Q : VK} {w a b : W} {v u : V}
/-- behind it: for all that may be -/
abbrev Post (K : PySem.W.Frag) (cl : Nat → Option Addr) (ρ : List Addr) (H : Hp) (vh' : VH) (w : W) (Q : VK) : Prop :=
  ∀ ρ' H' v, Fr ρ H ρ' H' → Rel K cl ρ' vh' H' → ValR K ρ' H' w v → Q v H'
theorem Post.at {K : PySem.W.Frag} (R : Rel K cl ρ vh H) (P : Post K cl ρ H vh w Q) (h : ValR K ρ H w v) : Q v H := P ρ H v Fr.rfl' R h
theorem Post.alloc {K : PySem.W.Frag} {o : O} {x : HO} (R : Rel K cl ρ vh H) (P : Post K cl ρ H (vh ++ [o]) (.ref vh.length) Q) (ho : ∀ p, H p = none → ObjR K cl (ρ ++ [p]) (upd H p x) p o) : ∀ p, H p = none → Q (.ref p) (upd H p x) :=
  fun p hp => P _ _ _ (Fr.alloc hp) (R.alloc hp (ho p hp)) (vr_ref.mpr ⟨p, rfl, R.fresh⟩)
theorem Post.lst {K : PySem.W.Frag} {ws : List W} {xs : List V} (R : Rel K cl ρ vh H) (P : Post K cl ρ H (vh ++ [.lst ws]) (.ref vh.length) Q) (h : ValsR K ρ H ws xs) : ∀ p, H p = none → Q (.ref p) (upd H p (.lst xs)) :=
  Post.alloc R P fun p hp => ⟨xs, upd_same, ValsR.stay R (Fr.alloc hp) h⟩
theorem Post.tup {K : PySem.W.Frag} {ws : List W} {xs : List V} (R : Rel K cl ρ vh H) (P : Post K cl ρ H vh (.tup ws) Q) (h : ValsR K ρ H ws xs) : ∀ p, H p = none → Q (.ref p) (upd H p (.tup xs)) :=
  fun p hp => P _ _ _ (Fr.new hp) (R.new hp) (vr_tup.mpr ⟨p, xs, rfl, SqT.of upd_same, ValsR.stay R (Fr.new hp) h⟩)
theorem Rel.lst {K : PySem.W.Frag} {r : Nat} {ws : List W} (R : Rel K cl ρ vh H) (h : vh[r]? = some (.lst ws)) (hv : ValR K ρ H (.ref r) v) : ∃ p xs, v = .ref p ∧ ρ[r]? = some p ∧ H p = some (.lst xs) ∧ ValsR K ρ H ws xs := by
  obtain ⟨p, rfl, hr⟩ := vr_ref.mp hv
  obtain ⟨xs, h1, h2⟩ := R.at hr h
  exact ⟨p, xs, rfl, hr, h1, h2⟩
theorem Rel.dct {K : PySem.W.Frag} {r : Nat} {ws : List (Key × W)} (R : Rel K cl ρ vh H) (h : vh[r]? = some (.dct ws)) (hv : ValR K ρ H (.ref r) v) : ∃ p xs, v = .ref p ∧ ρ[r]? = some p ∧ H p = some (.dK xs) ∧ KvR K ρ H ws xs := by
  obtain ⟨p, rfl, hr⟩ := vr_ref.mp hv
  obtain ⟨xs, h1, h2⟩ := R.at hr h
  exact ⟨p, xs, rfl, hr, h1, h2⟩
theorem listAt_some {vh : VH} {r : Nat} {ws : List W} (h : listAt vh r = some ws) : vh[r]? = some (.lst ws) := by
  unfold listAt at h
  split at h
  · rename_i e; cases h; exact e
  · cases h
/-- a list or tuple by its items -/
theorem seq_of {K : PySem.W.Frag} {ws : List W} (R : Rel K cl ρ vh H) (h : seqOf vh w = some ws) (hv : ValR K ρ H w v) : ∃ p xs, v = .ref p ∧ (SqL K H p xs ∨ SqT K H p xs) ∧ ValsR K ρ H ws xs := by
  cases w with
  | tup zs =>
    cases h
    obtain ⟨p, xs, rfl, h1, h2⟩ := vr_tup.mp hv
    exact ⟨p, xs, rfl, .inr h1, h2⟩
  | rol zs =>
    cases h
    obtain ⟨p, xs, rfl, h1, h2⟩ := vr_rol.mp hv
    exact ⟨p, xs, rfl, .inl h1.sql, h2⟩
  | ref r =>
    obtain ⟨p, xs, rfl, _, h1, h2⟩ := R.lst (listAt_some h) hv
    exact ⟨p, xs, rfl, .inl (SqL.of h1), h2⟩
  | _ => cases h

/-! ### truth -/
theorem tru_of {K : PySem.W.Frag} {k : Bool} (R : Rel K cl ρ vh H) (h : truW vh w = some k) (hv : ValR K ρ H w v) : TruV K v H k := by
  cases w with
  | non => rw [vr_non.mp hv]; cases h; exact rfl
  | bl b => rw [vr_bl.mp hv]; cases h; exact rfl
  | int i => rw [vr_int.mp hv]; cases h; exact rfl
  | str s =>
    rw [vr_str.mp hv]
    simp only [truW] at h
    split at h
    · rename_i hl
      cases h
      exact ⟨by rw [← line_eq]; exact hl, rfl⟩
    · cases h
  | tup ws =>
    obtain ⟨p, xs, rfl, h1, h2⟩ := vr_tup.mp hv
    cases h
    refine .inr (.inl ⟨xs, h1, ?_⟩)
    have := h2.length
    cases ws <;> cases xs <;> simp_all
  | rol ws =>
    obtain ⟨p, xs, rfl, h1, h2⟩ := vr_rol.mp hv
    cases h
    refine .inl ⟨xs, h1.sql, ?_⟩
    have := h2.length
    cases ws <;> cases xs <;> simp_all
  | ref r =>
    simp only [truW] at h
    split at h
    · rename_i ws e
      obtain ⟨p, xs, rfl, _, h1, h2⟩ := R.lst e hv
      cases h
      refine .inl ⟨xs, SqL.of h1, ?_⟩
      have := h2.length
      cases ws <;> cases xs <;> simp_all
    · rename_i ws e
      obtain ⟨p, xs, rfl, _, h1, h2⟩ := R.dct e hv
      cases h
      refine .inr (.inr ⟨xs, h1, ?_⟩)
      cases ws with
      | nil => have e : xs = [] := h2; subst e; rfl
      | cons q r => obtain ⟨k, w⟩ := q; obtain ⟨x, l', e, _⟩ := h2; subst e; rfl
    · cases h

/-! ### data -/
mutual
theorem datP_ok {K : PySem.W.Frag} : ∀ {w : W} {d : PyData} {v : V}, datP w = some d → ValR K ρ H w v → Dp K H v d
  | .non, _, _, e, h => by rw [vr_non.mp h]; cases e; exact .non
  | .bl b, _, _, e, h => by rw [vr_bl.mp h]; cases e; exact .bl b
  | .int i, _, _, e, h => by rw [vr_int.mp h]; cases e; exact .int i
  | .str s, _, _, e, h => by
    rw [vr_str.mp h]
    simp only [datP] at e
    split at e
    · cases e; exact .str s
    · cases e
  | .tup ws, _, _, e, h => by
    obtain ⟨p, xs, rfl, h1, h2⟩ := vr_tup.mp h
    simp only [datP, Option.map_eq_some_iff] at e
    obtain ⟨ds, e1, rfl⟩ := e
    exact .tup h1 (datPs_ok e1 h2)
  | .rol ws, _, _, e, h => by
    obtain ⟨p, xs, rfl, h1, h2⟩ := vr_rol.mp h
    simp only [datP, Option.map_eq_some_iff] at e
    obtain ⟨ds, e1, rfl⟩ := e
    exact .lst h1.sql (datPs_ok e1 h2)
  | .ref _, _, _, e, _ => by simp [datP] at e
theorem datPs_ok {K : PySem.W.Frag} : ∀ {ws : List W} {ds : List PyData} {vs : List V}, datPs ws = some ds → ValsR K ρ H ws vs → DpAll K H vs ds
  | [], _, _, e, h => by rw [h.nil_inv]; simp [datPs] at e; subst e; exact .nil
  | w :: ws, _, _, e, h => by
    obtain ⟨x, xs, rfl, h1, h2⟩ := h.uncons
    simp only [datPs] at e
    split at e
    · rename_i d ds e1 e2
      cases e
      exact .cons (datP_ok e1 h1) (datPs_ok e2 h2)
    · cases e
end
theorem all_dp {K : PySem.W.Frag} {f : W → Option PyData} (hf : ∀ {w : W} {d : PyData} {v : V}, f w = some d → ValR K ρ H w v → Dp K H v d) :
    ∀ {ws : List W} {ds : List PyData} {vs : List V}, allSome f ws = some ds → ValsR K ρ H ws vs → DpAll K H vs ds
  | [], _, _, e, h => by rw [h.nil_inv]; simp [allSome] at e; subst e; exact .nil
  | w :: ws, _, _, e, h => by
    obtain ⟨x, xs, rfl, h1, h2⟩ := h.uncons
    simp only [allSome] at e
    split at e
    · rename_i d ds e1 e2
      cases e
      exact .cons (hf e1 h1) (all_dp hf e2 h2)
    · cases e
theorem dat_ok {K : PySem.W.Frag} (R : Rel K cl ρ vh H) : ∀ {n : Nat} {w : W} {d : PyData} {v : V}, datW vh n w = some d → ValR K ρ H w v → Dp K H v d
  | 0, _, _, _, e, h => datP_ok (by simpa [datW] using e) h
  | n + 1, .ref r, _, _, e, h => by
    simp only [datW] at e
    split at e
    · rename_i ws e1
      obtain ⟨p, xs, rfl, _, h1, h2⟩ := R.lst (listAt_some e1) h
      simp only [Option.map_eq_some_iff] at e
      obtain ⟨ds, e2, rfl⟩ := e
      exact .lst (SqL.of h1) (all_dp (fun a b => dat_ok R a b) e2 h2)
    · cases e
  | n + 1, .tup ws, _, _, e, h => by
    obtain ⟨p, xs, rfl, h1, h2⟩ := vr_tup.mp h
    simp only [datW, Option.map_eq_some_iff] at e
    obtain ⟨ds, e2, rfl⟩ := e
    exact .tup h1 (all_dp (fun a b => dat_ok R a b) e2 h2)
  | n + 1, .rol ws, _, _, e, h => by
    obtain ⟨p, xs, rfl, h1, h2⟩ := vr_rol.mp h
    simp only [datW, Option.map_eq_some_iff] at e
    obtain ⟨ds, e2, rfl⟩ := e
    exact .lst h1.sql (all_dp (fun a b => dat_ok R a b) e2 h2)
  | n + 1, .non, _, _, e, h => datP_ok (by simpa [datW] using e) h
  | n + 1, .bl _, _, _, e, h => datP_ok (by simpa [datW] using e) h
  | n + 1, .int _, _, _, e, h => datP_ok (by simpa [datW] using e) h
  | n + 1, .str _, _, _, e, h => datP_ok (by simpa [datW] using e) h

/-! ### arithmetic -/
theorem snd_add (R : Rel X.K cl ρ vh H) (ha : ValR X.K ρ H a v) (hb : ValR X.K ρ H b u) (e : addW a b vh = .ok w vh') (P : Post X.K cl ρ H vh' w Q) : WO X (binaryOp .Add) v u H Q := by
  unfold addW at e
  split at e
  · cases e
    rw [vr_int.mp ha, vr_int.mp hb]
    exact WO.of op_add ⟨_, _, rfl, rfl, P.at R (vr_int.mpr rfl)⟩
  · split at e
    · rename_i hl
      cases e
      rw [vr_str.mp ha, vr_str.mp hb]
      exact WO.of op_add_str ⟨_, _, rfl, rfl, by rw [← line_eq]; exact hl, P.at R (vr_str.mpr rfl)⟩
    · cases e
  · rename_i x y
    split at e
    · rename_i hl
      cases e
      obtain ⟨p, xs, rfl, h1, h2⟩ := vr_tup.mp ha
      obtain ⟨q, ys, rfl, h3, h4⟩ := vr_tup.mp hb
      have l1 := h2.length
      have l2 := h4.length
      refine WO.of op_catA ⟨p, q, xs, ys, rfl, rfl, h1, h3, by rw [← line_eq, l1, l2]; exact hl, fun z => ?_, fun z1 z2 => ?_, fun z1 z2 => Post.tup R P (h2.append h4)⟩
      · subst z
        have : x = [] := List.length_eq_zero_iff.mp l1.symm
        subst this
        exact P.at R (vr_tup.mpr ⟨q, ys, rfl, h3, by simpa using h4⟩)
      · subst z2
        have : y = [] := List.length_eq_zero_iff.mp l2.symm
        subst this
        exact P.at R (vr_tup.mpr ⟨p, xs, rfl, h1, by simpa using h2⟩)
    · cases e
  · rename_i r q
    split at e
    · rename_i x y hx hy
      split at e
      · rename_i hl
        cases e
        obtain ⟨p, xs, rfl, _, h1, h2⟩ := R.lst hx ha
        obtain ⟨q, ys, rfl, _, h3, h4⟩ := R.lst hy hb
        exact WO.of op_cat ⟨p, q, xs, ys, rfl, rfl, h1, h3, by rw [← line_eq, h2.length, h4.length]; exact hl, Post.lst R P (h2.append h4)⟩
      · cases e
    · cases e
  · cases e
theorem snd_mul (R : Rel X.K cl ρ vh H) (ha : ValR X.K ρ H a v) (hb : ValR X.K ρ H b u) (e : mulW a b vh = .ok w vh') (P : Post X.K cl ρ H vh' w Q) : WO X (binaryOp .Mult) v u H Q := by
  unfold mulW at e
  split at e
  · split at e
    · rename_i i j hl
      cases e
      rw [vr_int.mp ha, vr_int.mp hb]
      refine WO.of op_mul ⟨_, _, rfl, rfl, ?_, P.at R (vr_int.mpr rfl)⟩
      simp only [mulOk, Bool.or_eq_true, decide_eq_true_eq] at hl
      rcases hl with hl | hl
      · exact .inl ⟨by omega, by omega⟩
      · exact .inr ⟨by omega, by omega⟩
    · cases e
  · rename_i r j
    split at e
    · rename_i x hx
      split at e
      · rename_i hl
        obtain ⟨hl1, hl2, hl3⟩ := hl
        cases e
        obtain ⟨p, xs, rfl, _, h1, h2⟩ := R.lst hx ha
        rw [vr_int.mp hb]
        exact WO.of op_rep ⟨p, j, xs, rfl, rfl, h1, by omega, by omega, by rw [← line_eq, h2.length]; exact hl3, Post.lst R P (h2.rep _)⟩
      · cases e
    · cases e
  · rename_i x j
    split at e
    · rename_i hl
      obtain ⟨hl1, hl2, hl3, hl4⟩ := hl
      cases e
      obtain ⟨p, xs, rfl, h1, h2⟩ := vr_tup.mp ha
      rw [vr_int.mp hb]
      refine WO.of op_repT ⟨p, j, xs, rfl, rfl, h1, fun z => ?_, hl2, hl3, by rw [h2.length]; exact hl4, Post.tup R P (h2.rep _)⟩
      subst z
      exact hl1 (List.length_eq_zero_iff.mp h2.length.symm)
    · cases e
  · cases e
theorem snd_int2 {f : Int → Int → Option Int} {op : Operator} {C : Int → Int → Prop} {g : Int → Int → Int} (rule : OpR X (binaryOp op) (rI C fun i j => .int (g i j))) (hf : ∀ i j k, f i j = some k → C i j ∧ k = g i j)
    (R : Rel X.K cl ρ vh H) (ha : ValR X.K ρ H a v) (hb : ValR X.K ρ H b u) (e : int2 f a b vh = .ok w vh') (P : Post X.K cl ρ H vh' w Q) : WO X (binaryOp op) v u H Q := by
  unfold int2 at e
  split at e
  · split at e
    · rename_i i j k hk
      cases e
      obtain ⟨hc, rfl⟩ := hf _ _ _ hk
      rw [vr_int.mp ha, vr_int.mp hb]
      exact WO.of rule ⟨_, _, rfl, rfl, hc, P.at R (vr_int.mpr rfl)⟩
    · cases e
  · cases e
theorem rI0_rI {op : Operator} {g : Int → Int → Int} (h : OpR X (binaryOp op) (rI0 fun i j => .int (g i j))) : OpR X (binaryOp op) (rI (fun _ _ => True) fun i j => .int (g i j)) :=
  fun pins s σ H x y v u Q I rx ry ⟨i, j, e1, e2, _, q⟩ => h pins s σ H x y v u Q I rx ry ⟨i, j, e1, e2, q⟩
theorem ite_some {c : Prop} [Decidable c] {a b : Int} (h : (if c then some a else none) = some b) : c ∧ b = a := by
  split at h
  · rename_i hc; cases h; exact ⟨hc, rfl⟩
  · cases h
theorem pow_lt {i : Int} (h : i.natAbs < 2 ^ 60) : i.natAbs < 2 ^ 64 := by omega
theorem snd_bin {o : Bop} {o' : Operator} (hb' : bopB o o' = true) (R : Rel X.K cl ρ vh H) (ha : ValR X.K ρ H a v) (hb : ValR X.K ρ H b u) (e : binW o a b vh = .ok w vh') (P : Post X.K cl ρ H vh' w Q) : WO X (binaryOp o') v u H Q := by
  unfold bopB at hb'
  split at hb'
  · exact snd_add R ha hb e P
  · exact snd_int2 (f := binI .sub) (rI0_rI op_sub) (fun i j k h => ⟨trivial, by cases h; rfl⟩) R ha hb e P
  · exact snd_mul R ha hb e P
  · exact snd_int2 op_fdivW (fun i j k h => by
      obtain ⟨⟨h1, h2⟩, rfl⟩ := ite_some h
      exact ⟨wide_div h1 (b := 100) (by omega) (by decide) (by decide), rfl⟩) R ha hb e P
  · exact snd_int2 op_mod (fun i j k h => by
      obtain ⟨h1, rfl⟩ := ite_some h
      exact ⟨h1, rfl⟩) R ha hb e P
  · exact snd_int2 op_pow (fun i j k h => by
      obtain ⟨⟨h1, h2, h3⟩, rfl⟩ := ite_some h
      exact ⟨⟨h1, by omega, pow_lt h3⟩, rfl⟩) R ha hb e P
  · exact snd_int2 op_shl (fun i j k h => by
      obtain ⟨⟨h1, h2, h3⟩, rfl⟩ := ite_some h
      exact ⟨⟨h1, by omega, pow_lt h3⟩, rfl⟩) R ha hb e P
  · exact snd_int2 op_shr (fun i j k h => by
      obtain ⟨h1, rfl⟩ := ite_some h
      exact ⟨h1, rfl⟩) R ha hb e P
  · exact snd_int2 (f := binI .band) (rI0_rI op_and) (fun i j k h => ⟨trivial, by cases h; rfl⟩) R ha hb e P
  · exact snd_int2 (f := binI .bor) (rI0_rI op_or) (fun i j k h => ⟨trivial, by cases h; rfl⟩) R ha hb e P
  · exact snd_int2 (f := binI .bxor) (rI0_rI op_xor) (fun i j k h => ⟨trivial, by cases h; rfl⟩) R ha hb e P
  · cases hb'

/-! ### dicts -/
theorem keyW_kV {K : PySem.W.Frag} {k : Key} (h : keyW a = some k) (hv : ValR K ρ H a v) : v = kV k := by
  cases a <;> simp only [keyW] at h <;> cases h
  · exact vr_int.mp hv
  · exact vr_str.mp hv
theorem kvr_get {K : PySem.W.Frag} {k : Key} : ∀ {ws : List (Key × W)} {xs : List (Key × V)}, KvR K ρ H ws xs → match dget ws k with | some w => ∃ x, valV xs k = some x ∧ ValR K ρ H w x | none => valV xs k = none
  | [], _, h => by rw [show _ = [] from h]; rfl
  | (j, w) :: r, _, h => by
    obtain ⟨x, l', rfl, h1, h2⟩ := h
    have ih := kvr_get (k := k) h2
    by_cases hj : j = k
    · simp only [dget, if_pos hj]
      exact ⟨x, valV_pos hj, h1⟩
    · simp only [dget, if_neg hj]
      rw [valV_neg (p := (j, x)) (r := l') hj]
      exact ih
theorem kvr_some {K : PySem.W.Frag} {k : Key} {ws : List (Key × W)} {xs : List (Key × V)} (h : KvR K ρ H ws xs) (e : dget ws k = some w) : ∃ x, valV xs k = some x ∧ ValR K ρ H w x := by
  have := kvr_get (k := k) h
  rw [e] at this; exact this
theorem kvr_isSome {K : PySem.W.Frag} {k : Key} {ws : List (Key × W)} {xs : List (Key × V)} (h : KvR K ρ H ws xs) : (valV xs k).isSome = (dget ws k).isSome := by
  have := kvr_get (k := k) h
  cases e : dget ws k with
  | some w => rw [e] at this; obtain ⟨x, h1, _⟩ := this; rw [h1]; rfl
  | none => rw [e] at this; rw [this]; rfl
theorem kvr_length {K : PySem.W.Frag} {κ : Type} : ∀ {ws : List (κ × W)} {xs : List (κ × V)}, KvR K ρ H ws xs → xs.length = ws.length
  | [], _, h => by rw [show _ = [] from h]; rfl
  | (j, w) :: r, _, h => by
    obtain ⟨x, l', rfl, h1, h2⟩ := h
    rw [List.length_cons, List.length_cons, kvr_length h2]
theorem kvr_any {K : PySem.W.Frag} {k : Key} : ∀ {ws : List (Key × W)} {xs : List (Key × V)}, KvR K ρ H ws xs → (xs.any fun p => decide (p.1 = k)) = ws.any fun p => decide (p.1 = k)
  | [], _, h => by rw [show _ = [] from h]; rfl
  | (j, w) :: r, _, h => by
    obtain ⟨x, l', rfl, h1, h2⟩ := h
    rw [List.any_cons, List.any_cons, kvr_any h2]
theorem kvr_map {K : PySem.W.Frag} {k : Key} {y : V} (hy : ValR K ρ H w y) : ∀ {ws : List (Key × W)} {xs : List (Key × V)}, KvR K ρ H ws xs →
    KvR K ρ H (ws.map fun p => if p.1 = k then (p.1, w) else p) (xs.map fun p => if p.1 = k then (p.1, y) else p)
  | [], _, h => by rw [show _ = [] from h]; rfl
  | (j, u) :: r, _, h => by
    obtain ⟨x, l', rfl, h1, h2⟩ := h
    have ih := kvr_map (k := k) hy h2
    by_cases hj : j = k
    · simp only [List.map_cons, if_pos hj]
      exact ⟨y, _, rfl, hy, ih⟩
    · simp only [List.map_cons, if_neg hj]
      exact ⟨x, _, rfl, h1, ih⟩
theorem kvr_app {K : PySem.W.Frag} {κ : Type} {k : κ} {y : V} (hy : ValR K ρ H w y) : ∀ {ws : List (κ × W)} {xs : List (κ × V)}, KvR K ρ H ws xs → KvR K ρ H (ws ++ [(k, w)]) (xs ++ [(k, y)])
  | [], _, h => by rw [show _ = [] from h]; exact ⟨y, [], rfl, hy, rfl⟩
  | (j, u) :: r, _, h => by
    obtain ⟨x, l', rfl, h1, h2⟩ := h
    exact ⟨x, _, rfl, h1, kvr_app hy h2⟩
theorem kvr_put {K : PySem.W.Frag} {k : Key} {y : V} {ws : List (Key × W)} {xs : List (Key × V)} (h : KvR K ρ H ws xs) (hy : ValR K ρ H w y) : KvR K ρ H (dset ws k w) (putK xs k y) := by
  unfold dset putK
  rw [kvr_any h]
  split
  · exact kvr_map hy h
  · exact kvr_app hy h

/-! ### == and in -/
theorem flat_of {K : PySem.W.Frag} (hv : ValR K ρ H w v) (h : flatW w = true) : flatV v = true := by
  cases w <;> simp only [flatW] at h <;> first | cases h | skip
  · rw [vr_non.mp hv]; rfl
  · rw [vr_bl.mp hv]; rfl
  · rw [vr_int.mp hv]; rfl
  · rw [vr_str.mp hv]; rfl
theorem eqF_of {K : PySem.W.Frag} {x : W} {z : V} (hv : ValR K ρ H w v) (h : flatW w = true) (hz : ValR K ρ H x z) (h' : flatW x = true) : eqV v z = eqF w x := by
  cases w <;> simp only [flatW] at h <;> first | cases h | skip
  all_goals (cases x <;> simp only [flatW] at h' <;> first | cases h' | skip)
  all_goals (first | rw [vr_non.mp hv] | rw [vr_bl.mp hv] | rw [vr_int.mp hv] | rw [vr_str.mp hv])
  all_goals (first | rw [vr_non.mp hz] | rw [vr_bl.mp hz] | rw [vr_int.mp hz] | rw [vr_str.mp hz])
  all_goals rfl
theorem flats_of {K : PySem.W.Frag} : ∀ {ws : List W} {xs : List V}, ValsR K ρ H ws xs → ws.all flatW = true → xs.all flatV = true
  | [], _, h, _ => by rw [h.nil_inv]; rfl
  | w :: ws, _, h, e => by
    obtain ⟨x, xs, rfl, h1, h2⟩ := h.uncons
    rw [List.all_cons, Bool.and_eq_true] at e ⊢
    exact ⟨flat_of h1 e.1, flats_of h2 e.2⟩
theorem any_of {K : PySem.W.Frag} (hv : ValR K ρ H w v) (h : flatW w = true) : ∀ {ws : List W} {xs : List V}, ValsR K ρ H ws xs → ws.all flatW = true → (xs.any fun y => eqV y v) = ws.any fun y => eqF y w
  | [], _, h, _ => by rw [h.nil_inv]; rfl
  | a :: ws, _, hs, e => by
    obtain ⟨x, xs, rfl, h1, h2⟩ := hs.uncons
    rw [List.all_cons, Bool.and_eq_true] at e
    rw [List.any_cons, List.any_cons, any_of hv h h2 e.2, eqF_of h1 e.1 hv h]
theorem snd_eqD {k : Bool} (hu : X.A.units + 64 < cLine) (R : Rel X.K cl ρ vh H) (ha : ValR X.K ρ H a v) (hb : ValR X.K ρ H b u) (e : eqD vh a b = some k) : (Q (.bl k) H → WO X (compareOp .Eq) v u H Q) ∧ (Q (.bl (!k)) H → WO X (compareOp .NotEq) v u H Q) := by
  unfold eqD at e
  split at e
  · rename_i d f e1 e2
    split at e
    · rename_i hs
      cases e
      exact ⟨fun q => WO.of (op_eqD hu) ⟨d, f, dat_ok R e1 ha, dat_ok R e2 hb, hs.1, hs.2, q⟩, fun q => WO.of (op_neD hu) ⟨d, f, dat_ok R e1 ha, dat_ok R e2 hb, hs.1, hs.2, q⟩⟩
    · cases e
  · cases e
theorem snd_eq {k : Bool} (hu : X.A.units + 64 < cLine) (R : Rel X.K cl ρ vh H) (ha : ValR X.K ρ H a v) (hb : ValR X.K ρ H b u) (e : eqW vh a b = some k) : (Q (.bl k) H → WO X (compareOp .Eq) v u H Q) ∧ (Q (.bl (!k)) H → WO X (compareOp .NotEq) v u H Q) := by
  unfold eqW at e
  split at e
  · cases e
    rw [vr_int.mp ha, vr_int.mp hb]
    refine ⟨fun q => WO.of op_eq ⟨rfl, ?_⟩, fun q => WO.of op_ne ⟨rfl, ?_⟩⟩ <;> simpa using q
  · cases e
    rw [vr_str.mp ha, vr_str.mp hb]
    refine ⟨fun q => WO.of op_eq ⟨rfl, ?_⟩, fun q => WO.of op_ne ⟨rfl, ?_⟩⟩ <;> simpa using q
  · cases e
    rw [vr_bl.mp ha, vr_bl.mp hb]
    refine ⟨fun q => WO.of op_eq ⟨rfl, ?_⟩, fun q => WO.of op_ne ⟨rfl, ?_⟩⟩ <;> simpa using q
  · exact snd_eqD hu R ha hb e
theorem snd_inF {K : PySem.W.Frag} {k : Bool} {ws : List W} {p : Addr} {xs : List V} (ha : ValR X.K ρ H a v) (hs : SqL X.K H p xs ∨ SqT X.K H p xs) (hv : ValsR X.K ρ H ws xs) (e : inF a ws = some k) :
    (Q (.bl k) H → WO X (compareOp .In) v (.ref p) H Q) ∧ (Q (.bl (!k)) H → WO X (compareOp .NotIn) v (.ref p) H Q) := by
  unfold inF at e
  split at e
  · rename_i hc
    cases e
    have he := any_of ha hc.1 hv hc.2
    refine ⟨fun q => WO.of op_in_seq ⟨p, xs, rfl, hs, flat_of ha hc.1, flats_of hv hc.2, ?_⟩, fun q => WO.of op_notIn_seq ⟨p, xs, rfl, hs, flat_of ha hc.1, flats_of hv hc.2, ?_⟩⟩
    · unfold inV; rw [he]; exact q
    · unfold inV; rw [he]; exact q
  · cases e
theorem snd_inL {k : Bool} {ws : List W} {p : Addr} {xs : List V} (hu : X.A.units + 65 < cLine) (R : Rel X.K cl ρ vh H) (ha : ValR X.K ρ H a v) (hs : SqL X.K H p xs) (hv : ValsR X.K ρ H ws xs) (e : inL vh a ws = some k) :
    (Q (.bl k) H → WO X (compareOp .In) v (.ref p) H Q) ∧ (Q (.bl (!k)) H → WO X (compareOp .NotIn) v (.ref p) H Q) := by
  unfold inL at e
  split at e
  · rename_i b e1
    cases e
    exact snd_inF (K := X.K) ha (.inl hs) hv e1
  · unfold inD at e
    split at e
    · rename_i d ds e1 e2
      split at e
      · rename_i hc
        cases e
        have hd := dat_ok R e1 ha
        have hl : Dp X.K H (.ref p) (.list ds) := .lst hs (all_dp (fun a b => dat_ok R a b) e2 hv)
        exact ⟨fun q => WO.of (op_inD hu) ⟨d, ds, hd, hl, hc.1, hc.2, q⟩, fun q => WO.of (op_notInD hu) ⟨d, ds, hd, hl, hc.1, hc.2, q⟩⟩
      · cases e
    · cases e
/-- a dict's in -/
theorem dk_in {f : CmpOp} {p : Addr} {l : List (Key × V)} {k : Key} (hu : X.A.units + 1 < cLine) (hd : H p = some (.dK l)) : (Q (.bl (valV l k).isSome) H → WO X (compareOp .In) (kV k) (.ref p) H Q) ∧ (Q (.bl (!(valV l k).isSome)) H → WO X (compareOp .NotIn) (kV k) (.ref p) H Q) := by
  refine ⟨fun q pins s σ v u I rv ru => ?_, fun q pins s σ v u I rv ru => ?_⟩
  · cases (show u = Value.ref p from ru)
    exact d_in hu I (DGet.k hd) rv fun s' I' => ⟨.bl _, H, I', rfl, q⟩
  · cases (show u = Value.ref p from ru)
    exact d_notIn hu I (DGet.k hd) rv fun s' I' => ⟨.bl _, H, I', rfl, q⟩
theorem snd_in {k : Bool} (hu : X.A.units + 65 < cLine) (R : Rel X.K cl ρ vh H) (ha : ValR X.K ρ H a v) (hb : ValR X.K ρ H b u) (e : inW vh a b = some k) :
    (Q (.bl k) H → WO X (compareOp .In) v u H Q) ∧ (Q (.bl (!k)) H → WO X (compareOp .NotIn) v u H Q) := by
  cases b with
  | tup ws =>
    obtain ⟨p, xs, rfl, h1, h2⟩ := vr_tup.mp hb
    exact snd_inF (K := X.K) ha (.inr h1) h2 e
  | rol ws =>
    obtain ⟨p, xs, rfl, h1, h2⟩ := vr_rol.mp hb
    exact snd_inL hu R ha h1.sql h2 e
  | ref r =>
    simp only [inW] at e
    split at e
    · rename_i kvs hk
      obtain ⟨p, l, rfl, _, h1, h2⟩ := R.dct hk hb
      simp only [Option.map_eq_some_iff] at e
      obtain ⟨j, e1, rfl⟩ := e
      rw [keyW_kV e1 ha, ← kvr_isSome h2]
      exact dk_in (f := .In) (by omega) h1
    · rename_i ws hk
      obtain ⟨p, xs, rfl, _, h1, h2⟩ := R.lst hk hb
      exact snd_inL hu R ha (SqL.of h1) h2 e
    · cases e
  | _ => cases e
def isNon : W → Bool | .non => true | _ => false
theorem isNon_of {K : PySem.W.Frag} (hv : ValR K ρ H w v) : decide (v = .non) = isNon w := by
  cases w with
  | non => rw [vr_non.mp hv]; rfl
  | bl _ => rw [vr_bl.mp hv]; rfl
  | int _ => rw [vr_int.mp hv]; rfl
  | str _ => rw [vr_str.mp hv]; rfl
  | tup _ => obtain ⟨p, xs, rfl, _⟩ := vr_tup.mp hv; rfl
  | rol _ => obtain ⟨p, xs, rfl, _⟩ := vr_rol.mp hv; rfl
  | ref _ => obtain ⟨p, rfl, _⟩ := vr_ref.mp hv; rfl
theorem snd_cmp {o : Cop} {o' : CmpOp} {k : Bool} (ho : copB o o' = true) (hu : X.A.units + 65 < cLine) (R : Rel X.K cl ρ vh H) (ha : ValR X.K ρ H a v) (hb : ValR X.K ρ H b u) (e : cmpW o a b vh = some k) (q : Q (.bl k) H) :
    WO X (compareOp o') v u H Q := by
  unfold copB at ho
  split at ho
  · exact (snd_eq (by omega) R ha hb e).1 q
  · simp only [cmpW, Option.map_eq_some_iff] at e
    obtain ⟨j, e1, rfl⟩ := e
    exact (snd_eq (by omega) R ha hb e1).2 q
  · simp only [cmpW] at e
    split at e <;> cases e
    rw [vr_int.mp ha, vr_int.mp hb]; exact WO.of op_lt ⟨_, _, rfl, rfl, q⟩
  · simp only [cmpW] at e
    split at e <;> cases e
    rw [vr_int.mp ha, vr_int.mp hb]; exact WO.of op_le ⟨_, _, rfl, rfl, q⟩
  · simp only [cmpW] at e
    split at e <;> cases e
    rw [vr_int.mp ha, vr_int.mp hb]; exact WO.of op_gt ⟨_, _, rfl, rfl, q⟩
  · simp only [cmpW] at e
    split at e <;> cases e
    rw [vr_int.mp ha, vr_int.mp hb]; exact WO.of op_ge ⟨_, _, rfl, rfl, q⟩
  · simp only [cmpW] at e
    split at e
    · cases e
      rw [vr_non.mp ha, vr_non.mp hb]; exact WO.of op_isN ⟨rfl, q⟩
    · rename_i hn
      cases e
      rw [vr_non.mp hb]
      refine WO.of op_isN ⟨rfl, ?_⟩
      rw [isNon_of ha]
      cases a <;> first | exact q | exact absurd rfl (hn)
    · cases e
      rw [vr_bl.mp ha, vr_bl.mp hb]
      exact WO.of op_isBl ⟨_, _, rfl, rfl, by rw [← Bool.beq_eq_decide_eq]; exact q⟩
    · cases e
  · simp only [cmpW] at e
    split at e
    · cases e
      rw [vr_non.mp ha, vr_non.mp hb]; exact WO.of op_notN ⟨rfl, q⟩
    · rename_i hn
      cases e
      rw [vr_non.mp hb]
      refine WO.of op_notN ⟨rfl, ?_⟩
      rw [isNon_of ha]
      cases a <;> first | exact q | exact absurd rfl (hn)
    · cases e
      rw [vr_bl.mp ha, vr_bl.mp hb]
      exact WO.of op_notBl ⟨_, _, rfl, rfl, by rw [← Bool.beq_eq_decide_eq]; exact q⟩
    · cases e
  · exact (snd_in hu R ha hb e).1 q
  · simp only [cmpW, Option.map_eq_some_iff] at e
    obtain ⟨j, e1, rfl⟩ := e
    exact (snd_in hu R ha hb e1).2 q
  · cases ho
end
end Nw

set_option Elab.async false
set_option linter.all false
set_option maxRecDepth 100000
set_option maxHeartbeats 1000000
/-! Nw, part E: places, slices, calls of built-ins, methods of lists, by values. -/
namespace Nw
open PySem PySem.Spec PyProof.Rows L2

section
variable {X : Cx} {cl : Nat → Option Addr} {ρ : List Addr} {vh vh' : VH} {H : Hp} {Q : VK} {w a b : W} {v u : V}

/-! ### isinstance -/
def tyStr : Ty → String
  | .tuple => "tuple" | .list => "list" | .str => "str" | .int => "int" | .bool => "bool" | .dict => "dict"
theorem kit_all : ∀ s t : Ty, kitB (tyStr s) (tyStr t) = some (s == t || (s == .bool && t == .int)) := by
  intro s t
  cases s <;> cases t <;> decide +kernel
theorem kit_non : ∀ t : Ty, kitB "NoneType" (tyStr t) = some false := by
  intro t
  cases t <;> decide +kernel
theorem tyX_of {K : PySem.W.Frag} {t : Ty} (R : Rel K cl ρ vh H) (h : tyW vh w = some t) (hv : ValR K ρ H w v) : TyX K H v (.type (tyStr t)) := by
  cases w with
  | non => cases h
  | bl b => cases h; rw [vr_bl.mp hv]; exact .base (.bl b)
  | int b => cases h; rw [vr_int.mp hv]; exact .base (.int b)
  | str b => cases h; rw [vr_str.mp hv]; exact .base (.str b)
  | tup ws =>
    cases h
    obtain ⟨p, xs, rfl, h1, _⟩ := vr_tup.mp hv
    rcases h1 with (h1 | ⟨o, h1⟩) | ⟨o, its, n, hk, hc, _⟩
    · exact .base (.tup h1)
    · exact .fTuple h1
    · exact .kTuple hk hc
  | rol ws =>
    cases h
    obtain ⟨p, xs, rfl, h1, _⟩ := vr_rol.mp hv
    rcases h1 with ⟨o, h1⟩ | ⟨o, its, n, hk, hc, _⟩
    · exact .base (.frz h1)
    · exact .kList hk hc
  | ref r =>
    simp only [tyW] at h
    split at h <;> cases h
    · rename_i e
      obtain ⟨p, xs, rfl, _, h1, _⟩ := R.lst e hv
      exact .base (.lst h1)
    · rename_i e
      obtain ⟨p, xs, rfl, _, h1, _⟩ := R.dct e hv
      exact .base (.dK h1)
theorem snd_isi {t : Ty} {k : Bool} (R : Rel X.K cl ρ vh H) (hv : ValR X.K ρ H w v) (h : isiW vh t w = some k) (q : Q (.bl k) H) : WC X (.builtin "isinstance") [v, .ty (tyStr t)] H Q := by
  have key : ∀ s : Ty, tyW vh w = some s → k = (s == t || (s == .bool && t == .int)) → WC X (.builtin "isinstance") [v, .ty (tyStr t)] H Q := fun s hs hk =>
    WC.of call_isi ⟨v, .ty (tyStr t), .type (tyStr s), .type (tyStr t), k, rfl, .ty _, tyX_of R hs hv, by rw [kit_ty (kit_all s t), hk], q⟩
  cases w with
  | non =>
    cases h
    rw [vr_non.mp hv]
    exact WC.of call_isi ⟨.non, .ty (tyStr t), .type "NoneType", .type (tyStr t), false, rfl, .ty _, .base .non, kit_ty (kit_non t), q⟩
  | bl b =>
    cases h
    refine key .bool rfl ?_
    cases t <;> rfl
  | int b => 
    refine key .int rfl ?_
    simp only [isiW, tyW, Option.map_some] at h
    cases h; cases t <;> rfl
  | str b =>
    refine key .str rfl ?_
    simp only [isiW, tyW, Option.map_some] at h
    cases h; cases t <;> rfl
  | tup b =>
    refine key .tuple rfl ?_
    simp only [isiW, tyW, Option.map_some] at h
    cases h; cases t <;> rfl
  | rol b =>
    refine key .list rfl ?_
    simp only [isiW, tyW, Option.map_some] at h
    cases h; cases t <;> rfl
  | ref r =>
    have h' : (tyW vh (.ref r)).map (· == t) = some k := h
    cases e : tyW vh (.ref r) with
    | none => rw [e] at h'; cases h'
    | some s =>
      rw [e] at h'
      refine key s e ?_
      cases h'
      have : s = .list ∨ s = .dict := by
        simp only [tyW] at e
        split at e <;> cases e
        · exact .inl rfl
        · exact .inr rfl
      rcases this with rfl | rfl <;> cases t <;> rfl

/-! ### a place -/
theorem atI_of {K : PySem.W.Frag} {ws : List W} {xs : List V} {i : Int} (hv : ValsR K ρ H ws xs) (h : atW ws i = some w) : ∃ x, atI xs i = some x ∧ ValR K ρ H w x := by
  have hl := hv.length
  unfold atW at h
  unfold atI ixN
  rw [hl]
  split at h
  · rename_i h0
    obtain ⟨x, hx, hr⟩ := hv.get h
    have hlt := (List.getElem?_eq_some_iff.mp h).1
    exact ⟨x, by rw [if_pos h0, if_pos (by omega)]; exact hx, hr⟩
  · rename_i h0
    split at h
    · rename_i h1
      obtain ⟨x, hx, hr⟩ := hv.get h
      exact ⟨x, by rw [if_neg h0, if_pos h1]; exact hx, hr⟩
    · cases h
def WX (X : Cx) (value slice : Expr) : R2 := fun x y H Q => ∀ (pins : List (Addr × Obj)) (s : Shared) (σ : L2.St) (v u : Value), Inv X pins σ H s → RelV x v → RelV y u →
    subscripted slice false v u = operate [v, u] (getItem v u) → wpAny (model X.prog X.w) X.A (subscriptTail value slice v u) (EP X pins σ Q) X.xe s
/-- o[i] of a list or tuple -/
theorem snd_ixS {ws : List W} {p : Addr} {xs : List V} {i : Int} (R : Rel X.K cl ρ vh H) (hs : SqL X.K H p xs ∨ SqT X.K H p xs) (hv : ValsR X.K ρ H ws xs) (h : atW ws i = some w) (P : Post X.K cl ρ H vh w Q) : rIx X.K (.ref p) (.int i) H Q := by
  obtain ⟨x, hx, hr⟩ := atI_of hv h
  rcases hs with hs | hs
  · exact .inl ⟨p, xs, i, x, rfl, rfl, hs, hx, P.at R hr⟩
  · exact .inr (.inl ⟨p, xs, i, x, rfl, rfl, hs, hx, P.at R hr⟩)

/-! ### a slice -/
theorem cut_length {α : Type} (ws : List α) (lo hi : Option Int) : (cut ws lo hi).length ≤ ws.length := by
  unfold cut; rw [List.length_take, List.length_drop]; omega
theorem cut_of {K : PySem.W.Frag} {ws : List W} {xs : List V} (hv : ValsR K ρ H ws xs) (lo hi : Option Int) : ValsR K ρ H (cut ws lo hi) (cutV xs lo hi) := by
  unfold cut cutV
  rw [hv.length]
  exact (hv.drop _).take _
theorem cut_whole {α : Type} {ws : List α} {lo hi : Option Int} (h : HT.sIx ws.length 0 lo = 0 ∧ HT.sIx ws.length ws.length hi = ws.length) : cut ws lo hi = ws := by
  unfold cut; rw [h.1, h.2]; simp
def rSlN (K : PySem.W.Frag) : V → Option Int → Option Int → Hp → VK → Prop := fun x lo hi H Q => rSlA K x lo hi H Q ∨ rSlL K x lo hi H Q
theorem sl_n : SlR X (rSlN X.K) := sl_tupA.or sl_list
theorem snd_sl {lo hi : Option Int} (R : Rel X.K cl ρ vh H) (hv : ValR X.K ρ H a v) (h : slW a lo hi vh = .ok w vh') (P : Post X.K cl ρ H vh' w Q) : rSlN X.K v lo hi H Q := by
  cases a with
  | tup ws =>
    cases h
    obtain ⟨p, xs, rfl, h1, h2⟩ := vr_tup.mp hv
    refine .inl ⟨p, xs, rfl, h1, fun z => ?_, fun z => Post.tup R P (cut_of h2 lo hi)⟩
    have e : cut ws lo hi = ws := cut_whole (by rw [← h2.length]; exact z)
    exact P.at R (vr_tup.mpr ⟨p, xs, rfl, h1, by rw [e]; exact h2⟩)
  | rol ws =>
    cases h
    obtain ⟨p, xs, rfl, h1, h2⟩ := vr_rol.mp hv
    exact .inr ⟨p, xs, rfl, h1.sql, Post.lst R P (cut_of h2 lo hi)⟩
  | ref r =>
    simp only [slW] at h
    split at h
    · rename_i ws e
      cases h
      obtain ⟨p, xs, rfl, _, h1, h2⟩ := R.lst (listAt_some e) hv
      exact .inr ⟨p, xs, rfl, SqL.of h1, Post.lst R P (cut_of h2 lo hi)⟩
    · cases h
  | _ => cases h

/-! ### built-ins -/
theorem intsAt_of {K : PySem.W.Frag} {ns : List Int} (R : Rel K cl ρ vh H) (h : intsAt vh w = some ns) (hv : ValR K ρ H w v) : ∃ p, v = .ref p ∧ SqL K H p (ns.map V.int) := by
  cases w with
  | rol ws =>
    obtain ⟨p, xs, rfl, h1, h2⟩ := vr_rol.mp hv
    have e := h2.ints h
    subst e
    exact ⟨p, rfl, h1.sql⟩
  | ref r =>
    simp only [intsAt] at h
    split at h
    · rename_i ws e
      obtain ⟨p, xs, rfl, _, h1, h2⟩ := R.lst (listAt_some e) hv
      have e := h2.ints h
      subst e
      exact ⟨p, rfl, SqL.of h1⟩
    · cases h
  | _ => cases h
theorem intsAt2_of {K : PySem.W.Frag} {ns : List Int} (R : Rel K cl ρ vh H) (h : intsAt2 vh w = some ns) (hv : ValR K ρ H w v) : ∃ p, v = .ref p ∧ (SqL K H p (ns.map V.int) ∨ SqT K H p (ns.map V.int)) := by
  unfold intsAt2 at h
  split at h
  · obtain ⟨p, xs, rfl, h1, h2⟩ := vr_tup.mp hv
    have e := h2.ints h
    subst e
    exact ⟨p, rfl, .inr h1⟩
  · obtain ⟨p, e, h1⟩ := intsAt_of R h hv
    exact ⟨p, e, .inl h1⟩
section
variable {prog : Program} {w : World} {A : Around} {E : Value → Shared → Prop} {s : Shared} {l : Addr} {xs : Array (Int × Tok)} {its : List Value} {ns : List Int} {Q : Value → Shared → Prop}
theorem iter_intTup (hl : s.heap.IsTuple l (intItems xs))
    (h : ∀ s₂ : Shared, s₂ = { s with heap := s.heap.push { cls := .type "tuple_iterator", data := .fields #[.ref l, .int 0 0] } } →
      (s₂.heap.IsTupleIter s.heap.objs.size l 0 ∧ s₂.heap.IsTuple l (intItems xs)) → (∀ b ∈ [s.heap.objs.size, l], b < s₂.heap.objs.size) → l ≠ s.heap.objs.size → Q (.ref s.heap.objs.size) s₂) :
    wpAny (model prog w) A (pyIter (.ref l)) Q E s := by
  have hlt : l < s.heap.objs.size := by obtain ⟨_, e, _⟩ := hl; exact Heap.lt_size e
  refine wpAny_pyIter_tuple hl (h _ rfl ⟨⟨_, Heap.get?_push_size _ rfl, rfl, rfl⟩, hl.push _⟩ (fun b hb => ?_) (Nat.ne_of_lt hlt))
  show b < (s.heap.push _).objs.size
  rw [Heap.size_push]
  rcases List.mem_cons.mp hb with rfl | hb
  · exact Nat.lt_succ_self _
  · rcases List.mem_cons.mp hb with rfl | hb
    · exact Nat.lt_succ_of_lt hlt
    · cases hb
theorem old_keptT {h' : Heap} (hk : ∀ b o, b ∉ [s.heap.objs.size] → (s.heap.push { cls := .type "tuple_iterator", data := .fields #[.ref l, .int 0 0] }).get? b = some o → h'.get? b = some o) :
    ∀ b o, s.heap.get? b = some o → h'.get? b = some o := fun b o e => by
  refine hk b o (fun hm => ?_) (Heap.get?_push_of_some _ e)
  rcases List.mem_cons.mp hm with e1 | hm
  · exact absurd (e1 ▸ Heap.lt_size e) (Nat.lt_irrefl _)
  · cases hm
theorem max_intTup (hh : A.handled = none) (hl : s.heap.IsTuple l (intItems xs)) (hne : 0 < xs.size)
    (h : ∀ v h' tk, (intItems xs)[argBest (fun i j => decide (numAt xs i > numAt xs j)) (xs.size - 1)]? = some v → (∀ b o, s.heap.get? b = some o → h'.get? b = some o) → Q v { s with heap := h', toks := tk }) :
    wpAny (model prog w) A (call (.builtin "max") [.ref l]) Q E s := by
  refine call_max_walk (iter_intTup hl fun s₂ e st hfp hlI => ?_)
  subst e
  refine ⟨_, _, _, _, _, _, _, rfl, Walks.tuple (A := A.in1) hh _ l hlI (intItems xs), st, hfp, by simpa [intItems] using hne, CmpOf.ints_gt (numAt xs) (fun _ _ => intItems_at), fun v h' tk hP hk => ?_⟩
  exact h v h' tk (by simpa [intItems] using hP) (old_keptT hk)
theorem min_intTup (hh : A.handled = none) (hl : s.heap.IsTuple l (intItems xs)) (hne : 0 < xs.size)
    (h : ∀ v h' tk, (intItems xs)[argBest (fun i j => decide (numAt xs i < numAt xs j)) (xs.size - 1)]? = some v → (∀ b o, s.heap.get? b = some o → h'.get? b = some o) → Q v { s with heap := h', toks := tk }) :
    wpAny (model prog w) A (call (.builtin "min") [.ref l]) Q E s := by
  refine call_min_walk (iter_intTup hl fun s₂ e st hfp hlI => ?_)
  subst e
  refine ⟨_, _, _, _, _, _, _, rfl, Walks.tuple (A := A.in1) hh _ l hlI (intItems xs), st, hfp, by simpa [intItems] using hne, CmpOf.ints_lt (numAt xs) (fun _ _ => intItems_at), fun v h' tk hP hk => ?_⟩
  exact h v h' tk (by simpa [intItems] using hP) (old_keptT hk)
theorem max_rawT (hh : A.handled = none) (hl : s.heap.IsTuple l its.toArray) (hi : IntsAre its ns) (hne : 0 < ns.length)
    (h : ∀ h' tk M t', (∀ b o, s.heap.get? b = some o → h'.get? b = some o) → M ∈ ns → (∀ a, a ∈ ns → a ≤ M) → Q (.int M t') { s with heap := h', toks := tk }) : wpAny (model prog w) A (call (.builtin "max") [.ref l]) Q E s := by
  obtain ⟨xs, e⟩ := hi.allInts.items
  have hn : numsOf (intItems xs).toList = ns := by rw [← e]; exact hi.numsOf
  rw [nums_intItems] at hn
  subst hn
  rw [e] at hl
  have hsz : 0 < xs.size := by simpa using hne
  refine max_intTup hh hl hsz fun v h' tk hv hk => ?_
  obtain ⟨t, rfl⟩ := intItems_at hv
  obtain ⟨h1, h2⟩ := argBest_gt (numAt xs) (xs.size - 1)
  refine h h' tk _ t hk ?_ fun a ha => ?_
  · rw [numAt_eq]; exact PySem.getD_mem (by rw [List.length_map, Array.length_toList]; omega)
  · obtain ⟨j, hj, rfl⟩ := mem_getD ha
    rw [List.length_map, Array.length_toList] at hj
    rw [← numAt_eq]; exact h2 j (by omega)
theorem min_rawT (hh : A.handled = none) (hl : s.heap.IsTuple l its.toArray) (hi : IntsAre its ns) (hne : 0 < ns.length)
    (h : ∀ h' tk M t', (∀ b o, s.heap.get? b = some o → h'.get? b = some o) → M ∈ ns → (∀ a, a ∈ ns → M ≤ a) → Q (.int M t') { s with heap := h', toks := tk }) : wpAny (model prog w) A (call (.builtin "min") [.ref l]) Q E s := by
  obtain ⟨xs, e⟩ := hi.allInts.items
  have hn : numsOf (intItems xs).toList = ns := by rw [← e]; exact hi.numsOf
  rw [nums_intItems] at hn
  subst hn
  rw [e] at hl
  have hsz : 0 < xs.size := by simpa using hne
  refine min_intTup hh hl hsz fun v h' tk hv hk => ?_
  obtain ⟨t, rfl⟩ := intItems_at hv
  obtain ⟨h1, h2⟩ := argBest_lt (numAt xs) (xs.size - 1)
  refine h h' tk _ t hk ?_ fun a ha => ?_
  · rw [numAt_eq]; exact PySem.getD_mem (by rw [List.length_map, Array.length_toList]; omega)
  · obtain ⟨j, hj, rfl⟩ := mem_getD ha
    rw [List.length_map, Array.length_toList] at hj
    rw [← numAt_eq]; exact h2 j (by omega)
end
def rMaxT (K : PySem.W.Frag) : List V → Hp → VK → Prop := fun vs H Q => ∃ (a : Addr) (ns : List Int), vs = [V.ref a] ∧ SqT K H a (ns.map V.int) ∧ 0 < ns.length ∧ ∀ m, m ∈ ns → (∀ y, y ∈ ns → y ≤ m) → Q (.int m) H
def rMinT (K : PySem.W.Frag) : List V → Hp → VK → Prop := fun vs H Q => ∃ (a : Addr) (ns : List Int), vs = [V.ref a] ∧ SqT K H a (ns.map V.int) ∧ 0 < ns.length ∧ ∀ m, m ∈ ns → (∀ y, y ∈ ns → m ≤ y) → Q (.int m) H
theorem cr_maxT (hc : X.calm = true) : CallR X (.builtin "max") (rMaxT X.K) := by
  intro pins s σ H vs us Q I r h
  obtain ⟨a, ns, rfl, hs, hne, q⟩ := h
  obtain ⟨its, rv, hl, _⟩ := I.tuple hs
  rw [Vals.ref1 r]
  exact max_rawT (I.ok.hd hc) hl rv.ints hne fun h' tk m t' hk h1 h2 => ⟨.int _, H, I.kept hk, ⟨_, rfl⟩, q m h1 h2⟩
theorem cr_minT (hc : X.calm = true) : CallR X (.builtin "min") (rMinT X.K) := by
  intro pins s σ H vs us Q I r h
  obtain ⟨a, ns, rfl, hs, hne, q⟩ := h
  obtain ⟨its, rv, hl, _⟩ := I.tuple hs
  rw [Vals.ref1 r]
  exact min_rawT (I.ok.hd hc) hl rv.ints hne fun h' tk m t' hk h1 h2 => ⟨.int _, H, I.kept hk, ⟨_, rfl⟩, q m h1 h2⟩
theorem foldl_max : ∀ (r : List Int) (a : Int), (r.foldl max a = a ∨ r.foldl max a ∈ r) ∧ a ≤ r.foldl max a ∧ ∀ y ∈ r, y ≤ r.foldl max a
  | [], a => ⟨.inl rfl, Int.le_refl _, fun y h => by cases h⟩
  | b :: r, a => by
    obtain ⟨h1, h2, h3⟩ := foldl_max r (max a b)
    rw [List.foldl_cons]
    refine ⟨?_, by omega, fun y hy => ?_⟩
    · rcases h1 with h1 | h1
      · by_cases hc : a ≤ b
        · right; rw [h1, show max a b = b from by omega]; simp
        · left; rw [h1]; omega
      · right; exact List.mem_cons_of_mem _ h1
    · rcases List.mem_cons.mp hy with rfl | hy
      · omega
      · exact h3 y hy
theorem foldl_min : ∀ (r : List Int) (a : Int), (r.foldl min a = a ∨ r.foldl min a ∈ r) ∧ r.foldl min a ≤ a ∧ ∀ y ∈ r, r.foldl min a ≤ y
  | [], a => ⟨.inl rfl, Int.le_refl _, fun y h => by cases h⟩
  | b :: r, a => by
    obtain ⟨h1, h2, h3⟩ := foldl_min r (min a b)
    rw [List.foldl_cons]
    refine ⟨?_, by omega, fun y hy => ?_⟩
    · rcases h1 with h1 | h1
      · by_cases hc : b ≤ a
        · right; rw [h1, show min a b = b from by omega]; simp
        · left; rw [h1]; omega
      · right; exact List.mem_cons_of_mem _ h1
    · rcases List.mem_cons.mp hy with rfl | hy
      · omega
      · exact h3 y hy
theorem maxI_spec {ns : List Int} (h : ns ≠ []) : maxI ns ∈ ns ∧ ∀ y ∈ ns, y ≤ maxI ns := by
  cases ns with
  | nil => exact absurd rfl h
  | cons a r =>
    obtain ⟨h1, h2, h3⟩ := foldl_max r a
    refine ⟨?_, fun y hy => ?_⟩
    · rcases h1 with h1 | h1
      · show r.foldl max a ∈ _; rw [h1]; simp
      · exact List.mem_cons_of_mem _ h1
    · rcases List.mem_cons.mp hy with rfl | hy
      · exact h2
      · exact h3 y hy
theorem minI_spec {ns : List Int} (h : ns ≠ []) : minI ns ∈ ns ∧ ∀ y ∈ ns, minI ns ≤ y := by
  cases ns with
  | nil => exact absurd rfl h
  | cons a r =>
    obtain ⟨h1, h2, h3⟩ := foldl_min r a
    refine ⟨?_, fun y hy => ?_⟩
    · rcases h1 with h1 | h1
      · show r.foldl min a ∈ _; rw [h1]; simp
      · exact List.mem_cons_of_mem _ h1
    · rcases List.mem_cons.mp hy with rfl | hy
      · exact h2
      · exact h3 y hy
theorem ints_valsR {K : PySem.W.Frag} {ρ : List Addr} {H : Hp} : ∀ ns : List Int, ValsR K ρ H (ns.map W.int) (ns.map V.int)
  | [] => .nil
  | i :: ns => .cons (vr_int.mpr rfl) (ints_valsR ns)
def biVal : Bi → Value
  | .len => .builtin "len" | .abs => .builtin "abs" | .int => .type "int" | .str => .type "str" | .list => .type "list" | .tuple => .type "tuple" | .max => .builtin "max" | .min => .builtin "min" | .sum => .builtin "sum" | .sorted => .builtin "sorted" | .repr => .builtin "repr" | .all => .builtin "all"
theorem log2_lt64 {n : Nat} (h : n < 2 ^ 64) : n.log2 < 1920 := by
  by_cases h0 : n = 0
  · subst h0; decide
  · have := (Nat.log2_lt h0).mpr h
    omega
theorem snd_bi {f : Bi} {as : List W} {vs : List V} (hc : X.calm = true) (R : Rel X.K cl ρ vh H) (hv : ValsR X.K ρ H as vs) (h : biW f as vh = .ok w vh') (P : Post X.K cl ρ H vh' w Q) : WC X (biVal f) vs H Q := by
  unfold biW at h
  split at h
  · -- len str
    obtain ⟨x, xs, rfl, h1, h2⟩ := hv.uncons
    rw [h2.nil_inv, vr_str.mp h1]
    split at h
    · rename_i hl
      cases h
      exact WC.of call_len_str ⟨_, rfl, by rw [← line_eq]; exact hl, P.at R (vr_int.mpr rfl)⟩
    · cases h
  · obtain ⟨x, xs, rfl, h1, h2⟩ := hv.uncons
    rw [h2.nil_inv]
    cases h
    obtain ⟨p, xs, rfl, h3, h4⟩ := vr_tup.mp h1
    exact WC.of call_len_seq ⟨p, xs, rfl, .inr h3, by rw [h4.length]; exact P.at R (vr_int.mpr rfl)⟩
  · obtain ⟨x, xs, rfl, h1, h2⟩ := hv.uncons
    rw [h2.nil_inv]
    cases h
    obtain ⟨p, xs, rfl, h3, h4⟩ := vr_rol.mp h1
    exact WC.of call_len_seq ⟨p, xs, rfl, .inl h3.sql, by rw [h4.length]; exact P.at R (vr_int.mpr rfl)⟩
  · obtain ⟨x, xs, rfl, h1, h2⟩ := hv.uncons
    rw [h2.nil_inv]
    split at h <;> cases h
    · rename_i e
      obtain ⟨p, xs, rfl, _, h3, h4⟩ := R.lst e h1
      exact WC.of call_len_seq ⟨p, xs, rfl, .inl (SqL.of h3), by rw [h4.length]; exact P.at R (vr_int.mpr rfl)⟩
    · rename_i e
      obtain ⟨p, xs, rfl, _, h3, h4⟩ := R.dct e h1
      exact WC.of call_lenD ⟨p, xs, rfl, h3, by rw [kvr_length h4]; exact P.at R (vr_int.mpr rfl)⟩
  · obtain ⟨x, xs, rfl, h1, h2⟩ := hv.uncons
    rw [h2.nil_inv, vr_int.mp h1]
    cases h
    exact WC.of call_abs ⟨_, rfl, P.at R (vr_int.mpr rfl)⟩
  · obtain ⟨x, xs, rfl, h1, h2⟩ := hv.uncons
    rw [h2.nil_inv, vr_int.mp h1]
    cases h
    exact WC.of call_int1 (.inl ⟨_, rfl, P.at R (vr_int.mpr rfl)⟩)
  · obtain ⟨x, xs, rfl, h1, h2⟩ := hv.uncons
    rw [h2.nil_inv, vr_bl.mp h1]
    cases h
    exact WC.of call_int1 (.inr ⟨_, rfl, P.at R (vr_int.mpr rfl)⟩)
  · obtain ⟨x, xs, rfl, h1, h2⟩ := hv.uncons
    rw [h2.nil_inv, vr_int.mp h1]
    split at h
    · rename_i hl
      cases h
      exact WC.of call_str_int ⟨_, rfl, log2_lt64 hl, P.at R (vr_str.mpr rfl)⟩
    · cases h
  · obtain ⟨x, xs, rfl, h1, h2⟩ := hv.uncons
    rw [h2.nil_inv]
    split at h
    · rename_i ws e
      cases h
      obtain ⟨p, xs, rfl, h3, h4⟩ := seq_of R e h1
      exact WC.of call_list_of ⟨p, xs, rfl, h3, Post.lst R P h4⟩
    · cases h
  · obtain ⟨x, xs, rfl, h1, h2⟩ := hv.uncons
    rw [h2.nil_inv]
    cases h
    obtain ⟨p, xs, rfl, h3, h4⟩ := vr_tup.mp h1
    exact WC.of call_tuple_of ⟨p, xs, rfl, .inr ⟨h3, P.at R (vr_tup.mpr ⟨p, xs, rfl, h3, h4⟩)⟩⟩
  · obtain ⟨x, xs, rfl, h1, h2⟩ := hv.uncons
    rw [h2.nil_inv]
    split at h
    · rename_i ws e
      cases h
      obtain ⟨p, xs, rfl, h3, h4⟩ := seq_of R e h1
      rcases h3 with h3 | h3
      · exact WC.of call_tuple_of ⟨p, xs, rfl, .inl ⟨h3, Post.tup R P h4⟩⟩
      · exact WC.of call_tuple_of ⟨p, xs, rfl, .inr ⟨h3, P.at R (vr_tup.mpr ⟨p, xs, rfl, h3, h4⟩)⟩⟩
    · cases h
  · obtain ⟨x, xs, rfl, h1, h2⟩ := hv.uncons
    obtain ⟨y, ys, rfl, h3, h4⟩ := h2.uncons
    rw [h4.nil_inv, vr_int.mp h1, vr_int.mp h3]
    cases h
    exact WC.of (call_max2 hc) ⟨_, _, rfl, P.at R (vr_int.mpr rfl)⟩
  · obtain ⟨x, xs, rfl, h1, h2⟩ := hv.uncons
    obtain ⟨y, ys, rfl, h3, h4⟩ := h2.uncons
    rw [h4.nil_inv, vr_int.mp h1, vr_int.mp h3]
    cases h
    exact WC.of (call_min2 hc) ⟨_, _, rfl, P.at R (vr_int.mpr rfl)⟩
  · obtain ⟨x, xs, rfl, h1, h2⟩ := hv.uncons
    rw [h2.nil_inv]
    split at h
    · rename_i ns e
      split at h
      · cases h
      · rename_i hne
        cases h
        obtain ⟨p, rfl, h3⟩ := intsAt2_of R e h1
        obtain ⟨s1, s2⟩ := maxI_spec hne
        have key : ∀ m, m ∈ ns → (∀ y, y ∈ ns → y ≤ m) → Q (.int m) H := fun m hm hmax => by
          have : m = maxI ns := Int.le_antisymm (s2 m hm) (hmax _ s1)
          subst this
          exact P.at R (vr_int.mpr rfl)
        rcases h3 with h3 | h3
        · exact WC.of (cr_max hc) ⟨p, ns, rfl, h3, List.length_pos_iff.mpr hne, key⟩
        · exact WC.of (cr_maxT hc) ⟨p, ns, rfl, h3, List.length_pos_iff.mpr hne, key⟩
    · cases h
  · obtain ⟨x, xs, rfl, h1, h2⟩ := hv.uncons
    rw [h2.nil_inv]
    split at h
    · rename_i ns e
      split at h
      · cases h
      · rename_i hne
        cases h
        obtain ⟨p, rfl, h3⟩ := intsAt2_of R e h1
        obtain ⟨s1, s2⟩ := minI_spec hne
        have key : ∀ m, m ∈ ns → (∀ y, y ∈ ns → m ≤ y) → Q (.int m) H := fun m hm hmax => by
          have : m = minI ns := Int.le_antisymm (hmax _ s1) (s2 m hm)
          subst this
          exact P.at R (vr_int.mpr rfl)
        rcases h3 with h3 | h3
        · exact WC.of (cr_min hc) ⟨p, ns, rfl, h3, List.length_pos_iff.mpr hne, key⟩
        · exact WC.of (cr_minT hc) ⟨p, ns, rfl, h3, List.length_pos_iff.mpr hne, key⟩
    · cases h
  · obtain ⟨x, xs, rfl, h1, h2⟩ := hv.uncons
    rw [h2.nil_inv]
    split at h
    · rename_i ns e
      cases h
      obtain ⟨p, rfl, h3⟩ := intsAt_of R e h1
      exact WC.of (cr_sum hc) ⟨p, ns, rfl, h3, P.at R (vr_int.mpr rfl)⟩
    · cases h
  · obtain ⟨x, xs, rfl, h1, h2⟩ := hv.uncons
    rw [h2.nil_inv]
    split at h
    · rename_i ns e
      split at h
      · rename_i h64
        cases h
        obtain ⟨p, rfl, h3⟩ := intsAt_of R e h1
        refine WC.of cr_sorted ⟨p, ns, rfl, h3, h64, fun ns' p perm srt hp => ?_⟩
        have e' : ns' = ns.mergeSort (· ≤ ·) := by
          refine List.Perm.eq_of_pairwise (le := fun a b => a ≤ b) (fun a b _ _ h1 h2 => Int.le_antisymm h1 h2) srt ?_ (perm.trans (List.mergeSort_perm ns _).symm)
          have := List.pairwise_mergeSort (le := fun a b => decide (a ≤ b)) (fun a b c h1 h2 => by simp at *; omega) (fun a b => by simp; omega) ns
          exact this.imp fun h => by simpa using h
        subst e'
        exact Post.lst R P (ints_valsR _) p hp
      · cases h
    · cases h
  · obtain ⟨x, xs, rfl, h1, h2⟩ := hv.uncons
    rw [h2.nil_inv]
    split at h
    · rename_i ws e
      split at h
      · rename_i bs e2
        cases h
        obtain ⟨p, xs, rfl, _, h3, h4⟩ := R.lst (listAt_some e) h1
        have e3 := h4.bls e2
        subst e3
        exact WC.of (cr_all hc) ⟨p, bs, rfl, SqL.of h3, P.at R (vr_bl.mpr rfl)⟩
      · cases h
    · cases h
  · cases h

/-! ### o[i] = w -/
abbrev PostH (K : PySem.W.Frag) (cl : Nat → Option Addr) (ρ : List Addr) (H : Hp) (vh' : VH) (Q : Hp → Prop) : Prop := ∀ ρ' H', Fr ρ H ρ' H' → Rel K cl ρ' vh' H' → Q H'
def WP (X : Cx) : TSet := fun o i v H Q => ∀ (pins : List (Addr × Obj)) (s : Shared) (σ : L2.St) (ov iv u : Value), Inv X pins σ H s → RelV o ov → RelV i iv → RelV v u →
    wpAny (model X.prog X.w) X.A (setItem ov iv u) (fun _ s' => ∃ H', Inv X pins σ H' s' ∧ Q H') X.xe s
theorem pWP : PSet X (WP X) := fun pins s σ H o i v ov iv u Q I r1 r2 r3 h => h pins s σ ov iv u I r1 r2 r3
theorem WP.of {t : TSet} (h : PSet X t) {o i v : V} {H : Hp} {Q : Hp → Prop} (q : t o i v H Q) : WP X o i v H Q := fun pins s σ ov iv u I r1 r2 r3 => h pins s σ H o i v ov iv u Q I r1 r2 r3 q
theorem snd_put {o i : W} {ov iv : V} {Q : Hp → Prop} (hu : X.A.units + 1 < cLine) (R : Rel X.K cl ρ vh H) (ho : ValR X.K ρ H o ov) (hi : ValR X.K ρ H i iv) (hw : ValR X.K ρ H w v) (h : putW o i w vh = .ok () vh') (P : PostH X.K cl ρ H vh' Q) : WP X ov iv v H Q := by
  cases o with
  | ref r =>
    simp only [putW] at h
    split at h
    · rename_i ws e
      obtain ⟨p, xs, rfl, hr, h1, h2⟩ := R.lst e ho
      split at h
      · rename_i j
        rw [vr_int.mp hi]
        have hl := h2.length
        have fin : ∀ n, ixN xs.length j = some n → vh' = vh.set r (.lst (ws.set n w)) → WP X (.ref p) (.int j) v H Q := fun n e1 e2 => by
          subst e2
          refine WP.of set_list ⟨p, xs, j, n, rfl, rfl, h1, e1, P _ _ (Fr.write hr) (R.write hr ⟨_, upd_same, ?_⟩)⟩
          exact ValsR.stay R (Fr.write hr) (h2.set n hw)
        split at h
        · rename_i h0
          split at h
          · rename_i h3
            cases h
            exact fin _ (by unfold ixN; rw [if_pos h0, hl, if_pos h3]) rfl
          · cases h
        · rename_i h0
          split at h
          · rename_i h3
            cases h
            exact fin _ (by unfold ixN; rw [if_neg h0, hl, if_pos h3]) rfl
          · cases h
      · cases h
    · rename_i kvs e
      obtain ⟨p, l, rfl, hr, h1, h2⟩ := R.dct e ho
      split at h
      · rename_i k hk
        split at h
        · rename_i hz
          cases h
          rw [keyW_kV hk hi]
          refine WP.of (set_dict hu) ⟨p, _, rfl, DPut.k h1 (by rw [kvr_length h2, ← line_eq]; exact hz), P _ _ (Fr.write hr) (R.write hr ⟨_, upd_same, ?_⟩)⟩
          exact KvR.stay R (Fr.write hr) (kvr_put h2 hw)
        · cases h
      · cases h
    · cases h
  | _ => cases h

/-! ### methods of a list -/
def WM (X : Cx) (id : String) : V → List V → Hp → VK → Prop := fun x xs H Q => ∀ (pins : List (Addr × Obj)) (s : Shared) (σ : L2.St) (v : Value) (us : List Value), Inv X pins σ H s → RelV x v → Vals xs us → wpAny (model X.prog X.w) X.A (call (.builtin id) (v :: us)) (EP X pins σ Q) X.xe s
theorem mWM {id : String} : MtR X id (WM X id) := fun pins s σ H x xs v us Q I rx rs h => h pins s σ v us I rx rs
theorem WM.of {id : String} {r : V → List V → Hp → VK → Prop} (h : MtR X id r) {x : V} {xs : List V} {H : Hp} {Q : VK} (q : r x xs H Q) : WM X id x xs H Q := fun pins s σ v us I rx rs => h pins s σ H x xs v us Q I rx rs q
theorem countP_U {x : V} : ∀ {xs : List V} {us : List Value}, Vals xs us → xs.all flatV = true → us.countP (eqU x) = xs.countP fun y => eqV y x
  | _, _, .nil, _ => rfl
  | _, _, .cons r t, f => by
    rw [List.all_cons, Bool.and_eq_true] at f
    rw [List.countP_cons, List.countP_cons, countP_U t f.2, eqU_of r f.1]
/-- l.count(x), flat -/
def rCntF (K : PySem.W.Frag) : V → List V → Hp → VK → Prop := fun x xs H Q => ∃ (p : Addr) (ys : List V) (y : V), x = .ref p ∧ xs = [y] ∧ SqL K H p ys ∧ flatV y = true ∧ ys.all flatV = true ∧ Q (.int (ys.countP (fun z => eqV z y) : Nat)) H
theorem mt_countF : MtR X "list.count" (rCntF X.K) := by
  intro pins s σ H x xs v us Q I rx rxs h
  obtain ⟨p, ys, y, rfl, rfl, hs, fy, fys, q⟩ := h
  cases rx
  obtain ⟨u, rfl, ru⟩ := rxs.one
  obtain ⟨its, rv, ⟨⟨cls, dd, data, sl⟩, n, ho, hc, hdn, hd⟩, hlen⟩ := I.list hs
  simp only at hc hd
  subst hc hd
  refine call_meets PySem.F.slot_list_count ⟨_, ho, rfl⟩ PySem.F.entry_list_count (PySem.F.args_list_count_2 _ _)
    (SeqAt.list_countAt p its.toArray n dd sl u (eqU y)) ⟨ho, fun z hz => mem_eqAt ru fy rv fys z (by simpa using hz), ?_⟩
  have ec : its.toArray.toList.countP (eqU y) = ys.countP (fun z => eqV z y) := countP_U rv fys
  refine ⟨.int (ys.countP (fun z => eqV z y) : Nat), H, I.tok _, ⟨s.toks, ?_⟩, q⟩
  show Value.int ((its.toArray.toList.countP (eqU y) : Nat) : Int) s.toks = Value.int ((ys.countP (fun z => eqV z y) : Nat) : Int) s.toks
  rw [ec]
theorem countF_of {K : PySem.W.Frag} (hv : ValR K ρ H w v) (h : flatW w = true) : ∀ {ws : List W} {xs : List V}, ValsR K ρ H ws xs → ws.all flatW = true → (xs.countP fun y => eqV y v) = ws.countP fun y => eqF y w
  | [], _, h, _ => by rw [h.nil_inv]; rfl
  | a :: ws, _, hs, e => by
    obtain ⟨x, xs, rfl, h1, h2⟩ := hs.uncons
    rw [List.all_cons, Bool.and_eq_true] at e
    rw [List.countP_cons, List.countP_cons, countF_of hv h h2 e.2, eqF_of h1 e.1 hv h]
theorem ValsR.dropLast {K : PySem.W.Frag} {ws : List W} {xs : List V} (h : ValsR K ρ H ws xs) : ValsR K ρ H ws.dropLast xs.dropLast := by
  rw [List.dropLast_eq_take, List.dropLast_eq_take, h.length]
  exact h.take _
theorem ValsR.get' {K : PySem.W.Frag} : ∀ {ws : List W} {vs : List V} {i : Nat} {v : V}, ValsR K ρ H ws vs → vs[i]? = some v → ∃ w, ws[i]? = some w ∧ ValR K ρ H w v := fun {ws vs i v} h e => by
  have hl := h.length
  have hi : i < ws.length := by rw [← hl]; exact (List.getElem?_eq_some_iff.mp e).1
  obtain ⟨x, hx, hr⟩ := h.get (List.getElem?_eq_getElem hi)
  rw [e] at hx; cases hx
  exact ⟨_, List.getElem?_eq_getElem hi, hr⟩
theorem before_idx {k : Int} : ∀ (ns : List Int) (m : Nat), m < ns.idxOf k → ns[m]? ≠ some k
  | [], m, h, _ => by simp at h
  | a :: r, m, h, e => by
    by_cases e' : a = k
    · subst e'; simp at h
    · rw [List.idxOf_cons, show (a == k) = false from by simpa using e'] at h
      simp only [Bool.false_eq_true, cond_false] at h
      cases m with
      | zero => simp at e; exact e' e
      | succ m => exact before_idx (k := k) r m (by omega) (by simpa using e)
/-- the names of the methods -/
inductive LM : Str → String → Prop
  | append : LM (S [97, 112, 112, 101, 110, 100]) "list.append"
  | extend : LM (S [101, 120, 116, 101, 110, 100]) "list.extend"
  | pop : LM (S [112, 111, 112]) "list.pop"
  | index : LM (S [105, 110, 100, 101, 120]) "list.index"
  | count : LM (S [99, 111, 117, 110, 116]) "list.count"
  | remove : LM (S [114, 101, 109, 111, 118, 101]) "list.remove"
  | insert : LM (S [105, 110, 115, 101, 114, 116]) "list.insert"
theorem write_lst {r : Nat} {p : Addr} {ws : List W} {xs : List V} {Q : VK} {x : V} (R : Rel X.K cl ρ vh H) (hr : ρ[r]? = some p) (hx : ValR X.K ρ H w x) (P : Post X.K cl ρ H (vh.set r (.lst ws)) w Q) (h2 : ValsR X.K ρ H ws xs) : Q x (upd H p (.lst xs)) :=
  P _ _ _ (Fr.write hr) (R.write hr ⟨_, upd_same, ValsR.stay R (Fr.write hr) h2⟩) (ValR.stay R (Fr.write hr) hx)
theorem snd_lm {m : Str} {r : Nat} {as : List W} {vs : List V} (R : Rel X.K cl ρ vh H) (hv : ValR X.K ρ H (.ref r) v) (hs : ValsR X.K ρ H as vs) (h : lmW m r as vh = .ok w vh') (P : Post X.K cl ρ H vh' w Q) : ∃ id, LM m id ∧ WM X id v vs H Q := by
  unfold lmW at h
  split at h
  · rename_i ws e
    obtain ⟨p, xs, rfl, hr, h1, h2⟩ := R.lst e hv
    have hl := h2.length
    split at h
    · rename_i hm; subst hm
      refine ⟨_, .append, ?_⟩
      split at h
      · split at h
        · rename_i hz
          cases h
          obtain ⟨y, ys, rfl, h3, h4⟩ := hs.uncons
          rw [h4.nil_inv]
          exact WM.of mt_append ⟨p, xs, y, rfl, rfl, h1, by rw [hl, ← line_eq]; exact hz, write_lst R hr (vr_non.mpr rfl) P (h2.append (.cons h3 .nil))⟩
        · cases h
      · cases h
    · split at h
      · rename_i hm; subst hm
        refine ⟨_, .extend, ?_⟩
        split at h
        · split at h
          · rename_i zs e2
            split at h
            · rename_i hz
              cases h
              obtain ⟨y, ys, rfl, h3, h4⟩ := hs.uncons
              rw [h4.nil_inv]
              obtain ⟨p2, xs2, rfl, hr2, h5, h6⟩ := R.lst e2 h3
              exact WM.of mt_extend ⟨p, p2, xs, xs2, rfl, rfl, h1, h5, by rw [hl, h6.length, ← line_eq]; exact hz, write_lst R hr (vr_non.mpr rfl) P (h2.append h6)⟩
            · cases h
          · cases h
        · cases h
      · split at h
        · rename_i hm; subst hm
          refine ⟨_, .pop, ?_⟩
          split at h
          · split at h
            · cases h
            · rename_i hne
              cases h
              rw [hs.nil_inv]
              have hpos : 0 < ws.length := List.length_pos_iff.mpr hne
              have e3 : ws[ws.length - 1]? = some (ws.getLast?.getD .non) := by
                rw [List.getLast?_eq_getElem?, List.getElem?_eq_getElem (by omega)]; rfl
              obtain ⟨y, hy, hyr⟩ := h2.get e3
              exact WM.of mt_pop ⟨p, xs, y, rfl, rfl, h1, by rw [hl]; exact hy, write_lst R hr hyr P h2.dropLast⟩
          · split at h
            · cases h
              obtain ⟨y, ys, rfl, h3, h4⟩ := hs.uncons
              rw [h4.nil_inv, vr_int.mp h3]
              obtain ⟨x, xs', rfl, h5, h6⟩ := h2.uncons
              exact WM.of mt_popAt ⟨p, x :: xs', 0, 0, x, rfl, rfl, h1, by decide, by decide, by simp [seqIndex?], rfl, write_lst R hr h5 P h6⟩
            · cases h
          · cases h
        · split at h
          · rename_i hm; subst hm
            refine ⟨_, .index, ?_⟩
            split at h
            · split at h
              · rename_i hc
                split at h
                · rename_i j hj
                  cases h
                  obtain ⟨y, ys, rfl, h3, h4⟩ := hs.uncons
                  rw [h4.nil_inv]
                  obtain ⟨hjl, hj1, hj2⟩ := List.findIdx?_eq_some_iff_getElem.mp hj
                  obtain ⟨z, hz, hzr⟩ := h2.get (List.getElem?_eq_getElem hjl)
                  have fl : ∀ i (hi : i < ws.length), flatW ws[i] = true := fun i hi => List.all_eq_true.mp hc.2 _ (List.getElem_mem hi)
                  refine WM.of mt_index ⟨p, xs, y, j, z, rfl, rfl, SqL.of h1, flat_of h3 hc.1, flats_of h2 hc.2, hz, ?_, fun m z' hm hz' => ?_, P.at R (vr_int.mpr rfl)⟩
                  · rw [eqF_of hzr (fl j hjl) h3 hc.1]; exact hj1
                  · obtain ⟨w', hw', hr'⟩ := h2.get' hz'
                    have hml : m < ws.length := by omega
                    rw [List.getElem?_eq_getElem hml] at hw'
                    cases hw'
                    rw [eqF_of hr' (fl m hml) h3 hc.1]
                    have := hj2 m hm
                    simpa using this
                · cases h
              · cases h
            · cases h
          · split at h
            · rename_i hm; subst hm
              refine ⟨_, .count, ?_⟩
              split at h
              · split at h
                · rename_i hc
                  cases h
                  obtain ⟨y, ys, rfl, h3, h4⟩ := hs.uncons
                  rw [h4.nil_inv]
                  refine WM.of mt_countF ⟨p, xs, y, rfl, rfl, SqL.of h1, flat_of h3 hc.1, flats_of h2 hc.2, ?_⟩
                  rw [countF_of h3 hc.1 h2 hc.2]
                  exact P.at R (vr_int.mpr rfl)
                · cases h
              · cases h
            · split at h
              · rename_i hm; subst hm
                refine ⟨_, .remove, ?_⟩
                split at h
                · rename_i k
                  split at h
                  · rename_i ns en
                    split at h
                    · rename_i hk
                      cases h
                      obtain ⟨y, ys, rfl, h3, h4⟩ := hs.uncons
                      rw [h4.nil_inv, vr_int.mp h3]
                      have e3 := h2.ints en
                      subst e3
                      have hi : ns.idxOf k < ns.length := List.idxOf_lt_length_of_mem hk
                      refine WM.of mt_remove ⟨p, ns, k, ns.idxOf k, rfl, rfl, h1, ?_, fun m hm hmk => ?_, ?_⟩
                      · rw [List.getElem?_eq_getElem hi, List.getElem_idxOf hi]
                      · obtain ⟨hml, hme⟩ := List.getElem?_eq_some_iff.mp hmk
                        exact before_idx ns m hm hmk
                      · rw [show ns.eraseIdx (ns.idxOf k) = ns.erase k from (List.erase_eq_eraseIdx_of_idxOf rfl).symm]
                        exact write_lst R hr (vr_non.mpr rfl) P (ints_valsR _)
                    · cases h
                  · cases h
                · cases h
              · split at h
                · rename_i hm; subst hm
                  refine ⟨_, .insert, ?_⟩
                  split at h
                  · split at h
                    · rename_i hz
                      cases h
                      obtain ⟨y, ys, rfl, h3, h4⟩ := hs.uncons
                      obtain ⟨z, zs, rfl, h5, h6⟩ := h4.uncons
                      rw [h6.nil_inv, vr_int.mp h3]
                      exact WM.of mt_insert ⟨p, xs, 0, z, rfl, rfl, h1, by rw [hl, ← line_eq]; exact hz, by decide, by decide, write_lst R hr (vr_non.mpr rfl) P (.cons h5 h2)⟩
                    · cases h
                  · cases h
                · cases h
  · cases h
end
end Nw

set_option Elab.async false
set_option linter.all false
set_option maxRecDepth 100000
set_option maxHeartbeats 1000000
/-! Nw, part F: what the evaluator says, the program does: expressions. -/
namespace Nw
open PySem PySem.Spec PyProof.Rows L2

abbrev WE (X : Cx) (e : Expr) : TE := fun σ H Q => ∀ (pins : List (Addr × Obj)) (s : Shared), Inv X pins σ H s → wpAny (model X.prog X.w) X.A (eval e X.env) (EP X pins σ Q) X.xe s
theorem pWE {X : Cx} {e : Expr} : PE X e (WE X e) := ⟨fun pins s σ H Q I h => h pins s I⟩
theorem WE.of {X : Cx} {e : Expr} {t : TE} (h : PE X e t) {σ : L2.St} {H : Hp} {Q : VK} (q : t σ H Q) : WE X e σ H Q := fun pins s I => h.run pins s σ H Q I q
abbrev WT (X : Cx) (e : Expr) : TT := fun σ H Q => ∀ (pins : List (Addr × Obj)) (s : Shared), Inv X pins σ H s → wpAny (model X.prog X.w) X.A (isTrue e X.env (eval e X.env)) (TP X pins σ Q) X.xe s
theorem pWT {X : Cx} {e : Expr} : PT X e (WT X e) := ⟨fun pins s σ H Q I h => h pins s I⟩
theorem WT.of {X : Cx} {e : Expr} {t : TT} (h : PT X e t) {σ : L2.St} {H : Hp} {Q : Bool → Hp → Prop} (q : t σ H Q) : WT X e σ H Q := fun pins s I => h.run pins s σ H Q I q
abbrev WB (X : Cx) (e : Expr) : TT := fun σ H Q => ∀ (whole : Sem Value) (pins : List (Addr × Obj)) (s : Shared), Inv X pins σ H s → wpAny (model X.prog X.w) X.A (isTrue e X.env whole) (TP X pins σ Q) X.xe s
theorem pWB {X : Cx} {e : Expr} : PW X e (WB X e) := ⟨fun wh pins s σ H Q I h => h wh pins s I⟩
theorem WB.of {X : Cx} {e : Expr} {t : TT} (h : PW X e t) {σ : L2.St} {H : Hp} {Q : Bool → Hp → Prop} (q : t σ H Q) : WB X e σ H Q := fun wh pins s I => h.run wh pins s σ H Q I q
abbrev WA (X : Cx) (es : List Expr) : TA := fun σ H Q => ∀ (pos : Pos) (pins : List (Addr × Obj)) (s : Shared), Inv X pins σ H s → wpAny (model X.prog X.w) X.A (spliced (backTo pos (starEach es X.env))) (AP X pins σ Q) X.xe s
theorem pWA {X : Cx} {es : List Expr} : PA X es (WA X es) := ⟨fun pos pins s σ H Q I h => h pos pins s I⟩
theorem WA.of {X : Cx} {es : List Expr} {t : TA} (h : PA X es t) {σ : L2.St} {H : Hp} {Q : List V → Hp → Prop} (q : t σ H Q) : WA X es σ H Q := fun pos pins s I => h.run pos pins s σ H Q I q
abbrev WI (X : Cx) (tg e : Expr) : TI := fun σ H R => ∀ (pins : List (Addr × Obj)) (s : Shared), Inv X pins σ H s → wpAny (model X.prog X.w) X.A (eval e X.env) (fun v s1 => wpAny (model X.prog X.w) X.A (pyIter v) (PIE X pins σ tg R) X.xe s1) X.xe s
theorem pWI {X : Cx} {tg e : Expr} : PI X tg e (WI X tg e) := ⟨fun pins s σ H R I h => h pins s I⟩
theorem WI.of {X : Cx} {tg e : Expr} {t : TI} (h : PI X tg e t) {σ : L2.St} {H : Hp} {R : It → Hp → Prop} (q : t σ H R) : WI X tg e σ H R := fun pins s I => h.run pins s σ H R I q
abbrev WG (X : Cx) (tg : Expr) : TG := fun v σ H Q => ∀ (pins : List (Addr × Obj)) (s : Shared) (u : Value), Inv X pins σ H s → RelV v u → wpAny (model X.prog X.w) X.A (assign tg X.env u) (fun _ s' => ∃ σ' H', Inv X pins σ' H' s' ∧ Q σ' H') X.xe s
theorem pWG {X : Cx} {tg : Expr} : PG X tg (WG X tg) := ⟨fun pins s σ H v u Q I r h => h pins s u I r⟩
theorem WG.of {X : Cx} {tg : Expr} {t : TG} (h : PG X tg t) {v : V} {σ : L2.St} {H : Hp} {Q : L2.St → Hp → Prop} (q : t v σ H Q) : WG X tg v σ H Q := fun pins s u I r => h.run pins s σ H v u Q I r q
abbrev WGs (X : Cx) (ts : List Expr) : TGs := fun vs σ H Q => ∀ (pins : List (Addr × Obj)) (s : Shared) (us : List Value), Inv X pins σ H s → Vals vs us → wpAny (model X.prog X.w) X.A (assignInOrder ((assignEach ts X.env).map (·.2)) us) (fun _ s' => ∃ σ' H', Inv X pins σ' H' s' ∧ Q σ' H') X.xe s
theorem pWGs {X : Cx} {ts : List Expr} : PGs X ts (WGs X ts) := ⟨fun pins s σ H vs us Q I r h => h pins s us I r⟩
theorem WGs.of {X : Cx} {ts : List Expr} {t : TGs} (h : PGs X ts t) {vs : List V} {σ : L2.St} {H : Hp} {Q : L2.St → Hp → Prop} (q : t vs σ H Q) : WGs X ts vs σ H Q := fun pins s us I r => h.run pins s σ H vs us Q I r q

theorem star_cons {e : Expr} (h : notStar e = true) (es : List Expr) (env : PySem.Env) : starEach (e :: es) env = (false, eval e env) :: starEach es env := by
  cases e <;> first | rfl | cases h
theorem star_plain : ∀ {es : List Expr} (env : PySem.Env) (pos : Pos), es.all notStar = true → (backTo pos (starEach es env)).any (·.1) = false
  | [], _, _, _ => rfl
  | e :: es, env, pos, h => by
    rw [List.all_cons, Bool.and_eq_true] at h
    rw [star_cons h.1]
    exact star_plain env pos h.2
theorem star_few : ∀ {es : List Expr} (env : PySem.Env) (pos : Pos), es.all notStar = true → (backTo pos (starEach es env)).all (fun x => !x.1) = true
  | [], _, _, _ => rfl
  | e :: es, env, pos, h => by
    rw [List.all_cons, Bool.and_eq_true] at h
    rw [star_cons h.1]
    exact star_few env pos h.2
theorem plainIx_of {b : Expr} (h : notSlice b = true) : PlainIx b := fun o i => by cases b <;> first | rfl | cases h
theorem plainT_of {e : Expr} (h : plainT e = true) (env : PySem.Env) (whole : Sem Value) : isTrue e env whole = (do let v ← whole; standAt e.pos; holding [v] (truthy v)) := by
  cases e <;> first | rfl | cases h | skip
  rename_i op a p
  cases op <;> first | rfl | cases h
theorem notSup_of {o : Expr} (h : notSup o = true) (m : Str) (env : PySem.Env) : attributeBase o m env (eval o env) = eval o env := by
  cases o <;> first | rfl | skip
  rename_i f as kws pos
  cases f <;> first | rfl | skip
  cases as <;> first | rfl | skip
  cases kws <;> first | rfl | cases h
theorem notSet_of {e : Expr} (h : notSet e = true) (env : PySem.Env) (x : Value) : foldedSetIterable e env x = pure x := by
  cases e <;> first | rfl | cases h
theorem behind_of {b : Expr} (h : notSet b = true) (op : CmpOp) : behindInMarks op b = false := by
  cases b <;> first | rfl | cases h
theorem last_of {b c : Expr} (h : notSet b = true) (h' : notSet c = true) (op op' : CmpOp) : lastMarks [op, op'] [b, c] = false := by
  show behindInMarks op' c = false
  exact behind_of h' op'

/-! ### the program around -/
def spF (P : Prog) (n f : Nat) (K : PySem.W.Frag) (cl : Nat → Option Addr) : Sp := fun vs H Q _ =>
  ∃ ρ vh ws w vh', Rel K cl ρ vh H ∧ ValsR K ρ H ws vs ∧ P.call n f ws vh = .ok w vh' ∧ Post K cl ρ H vh' w Q
def bltNames : List Str := ["len", "abs", "int", "str", "list", "tuple", "max", "min", "sum", "sorted", "repr", "all", "range", "isinstance", "bool", "dict"]
structure XOk (P : Prog) (G : GN) (n : Nat) (cl : Nat → Option Addr) (X : Cx) : Prop where
  calm : X.calm = true
  nd : X.N.Nodup
  room : Room n X.A
  xe : X.xe = fun _ _ => False
  fn : ∀ (f : Nat) (x : Str), G.fn[f]? = some (some x) → ∃ a fd ps, X.mg x = some (.ref a) ∧ PySem.W.keepIn X.K (.ref a) = true ∧ Binds X.K fd ps [] ∧ FnOk X.prog X.w X.K X.mg X.base CX0 n a fd ps (spF P n f X.K cl)
  blt : ∀ x ∈ bltNames, X.mg x = none
  glb : ∀ x w, P.glob x = some w → ∃ u v, X.mg x = some u ∧ RelV v u ∧ ∀ ρ H, ValR X.K ρ H w v
  cls : ∀ (c : Nat) (x : Str), G.cls[c]? = some x → ∃ A, cl c = some A ∧ X.mg x = some (.ref A)
  isC : ∀ (c : Nat) (A : Addr), cl c = some A → Cls X.K A
  fokN : ∀ (c : Nat) (A : Addr) (f : Str), cl c = some A → P.fok c f = true → NoAttr X.K A f
  meth : ∀ (c : Nat) (m : Str) (f : Nat), P.meth c m = some f → ∃ A g fd ps, cl c = some A ∧ Meth X.K A m g ∧ Binds X.K fd ps [] ∧ FnOk X.prog X.w X.K X.mg X.base CX0 n g fd ps (spF P n f X.K cl)
  mkC : ∀ (k c f : Nat), n = k + 1 → P.meth c (S [95, 95, 105, 110, 105, 116, 95, 95]) = some f → ∃ A g fd ps, cl c = some A ∧ Mk X.K A g ∧ Binds X.K fd ps [] ∧ FnOk X.prog X.w X.K X.mg X.base CX0 k g fd ps (spF P k f X.K cl)

section
variable {P : Prog} {G : GN} {n : Nat} {cl : Nat → Option Addr} {X : Cx}
theorem XOk.units (h : XOk P G n cl X) : X.A.units + 64 < cLine := h.room.units
theorem XOk.units65 (h : XOk P G n cl X) : X.A.units + 65 < cLine := by have := h.room.un; omega
theorem XOk.units1 (h : XOk P G n cl X) : X.A.units + 1 < cLine := by have := h.room.un; omega
theorem XOk.blk (h : XOk P G n cl X) (s : Shared) (H : Hp) (scope : Scope) (ce : PySem.Env) (fp : List Addr) : XOk P G n cl (X.blk s H scope ce fp) :=
  ⟨h.calm, h.nd, h.room, rfl, h.fn, h.blt, h.glb, h.cls, h.isC, h.fokN, h.meth, h.mkC⟩

def SndE (X : Cx) (cl : Nat → Option Addr) (m : Env → VH → R W) (e : Expr) : Prop := ∀ ρ vh env σ H Q w vh', Rel X.K cl ρ vh H → EnvR X.K X.N ρ H env σ → m env vh = .ok w vh' → Post X.K cl ρ H vh' w Q → WE X e σ H Q
abbrev PostA (K : PySem.W.Frag) (cl : Nat → Option Addr) (ρ : List Addr) (H : Hp) (vh' : VH) (ws : List W) (Q : List V → Hp → Prop) : Prop := ∀ ρ' H' vs, Fr ρ H ρ' H' → Rel K cl ρ' vh' H' → ValsR K ρ' H' ws vs → Q vs H'
def SndA (X : Cx) (cl : Nat → Option Addr) (m : Env → VH → R (List W)) (es : List Expr) : Prop := ∀ ρ vh env σ H Q ws vh', Rel X.K cl ρ vh H → EnvR X.K X.N ρ H env σ → m env vh = .ok ws vh' → PostA X.K cl ρ H vh' ws Q → WA X es σ H Q
abbrev PostT (K : PySem.W.Frag) (cl : Nat → Option Addr) (ρ : List Addr) (H : Hp) (vh' : VH) (k : Bool) (Q : Bool → Hp → Prop) : Prop := ∀ ρ' H', Fr ρ H ρ' H' → Rel K cl ρ' vh' H' → Q k H'
def SndT (X : Cx) (cl : Nat → Option Addr) (m : Env → VH → R Bool) (e : Expr) : Prop := ∀ ρ vh env σ H Q k vh', Rel X.K cl ρ vh H → EnvR X.K X.N ρ H env σ → m env vh = .ok k vh' → PostT X.K cl ρ H vh' k Q → WT X e σ H Q
theorem Post.from {K : PySem.W.Frag} {ρ ρ1 : List Addr} {H H1 : Hp} {vh' : VH} {w : W} {Q : VK} (F : Fr ρ H ρ1 H1) (p : Post K cl ρ H vh' w Q) : Post K cl ρ1 H1 vh' w Q := fun ρ' H' v f r q => p ρ' H' v (F.trans f) r q
theorem PostT.from {K : PySem.W.Frag} {ρ ρ1 : List Addr} {H H1 : Hp} {vh' : VH} {k : Bool} {Q : Bool → Hp → Prop} (F : Fr ρ H ρ1 H1) (p : PostT K cl ρ H vh' k Q) : PostT K cl ρ1 H1 vh' k Q := fun ρ' H' f r => p ρ' H' (F.trans f) r
theorem ok?_ok {α : Type} {o : Option α} {h h' : VH} {a : α} (e : ok? o h = .ok a h') : o = some a ∧ h' = h := by
  unfold ok? at e
  split at e
  · cases e; exact ⟨rfl, rfl⟩
  · cases e

theorem bnd {α β : Type} {r : R α} {f : α → VH → R β} {b : β} {h : VH} (e : r.bind f = .ok b h) : ∃ a h1, r = .ok a h1 ∧ f a h1 = .ok b h := R.bind_eq e
/-- two, one behind the other -/
theorem snd2 {ma mb : Env → VH → R W} {a b : Expr} (ha : SndE X cl ma a) (hb : SndE X cl mb b) {ρ : List Addr} {vh h1 h2 : VH} {env : Env} {σ : L2.St} {H : Hp} {x y : W} {Rr : V → V → Hp → Prop}
    (R : Rel X.K cl ρ vh H) (E : EnvR X.K X.N ρ H env σ) (e1 : ma env vh = .ok x h1) (e2 : mb env h1 = .ok y h2) (q : ∀ ρ2 H2 v u, Fr ρ H ρ2 H2 → Rel X.K cl ρ2 h2 H2 → ValR X.K ρ2 H2 x v → ValR X.K ρ2 H2 y u → Rr v u H2) :
    WE X a σ H fun v H1 => WE X b σ H1 fun u H2 => Rr v u H2 :=
  ha ρ vh env σ H _ x h1 R E e1 fun ρ1 H1 v F1 R1 V1 => hb ρ1 h1 env σ H1 _ y h2 R1 (E.stay R F1) e2 fun ρ2 H2 u F2 R2 V2 => q ρ2 H2 v u (F1.trans F2) R2 (V1.stay R1 F2) V2

theorem vis_of {sc : Scope} {x : Str} (h : visB sc x = true) : Vis sc x := by
  unfold visB at h
  split at h
  · exact .inl (by assumption)
  · exact .inr (.inl (by assumption))
  · exact .inr (.inr (by assumption))
  · cases h
theorem loc_of {sc : Scope} {x : Str} (h : locB sc x = true) : Loc sc x := by
  unfold locB at h
  split at h
  · exact .inl (by assumption)
  · exact .inr (by assumption)
  · cases h
theorem glb_of {sc : Scope} {x : Str} (h : glbB sc x = true) : sc.names.lookup x = some .globalImplicit := by
  unfold glbB at h
  split at h
  · assumption
  · cases h
theorem gl_of {x : Str} (h : glbB X.env.scope x = true) : Gl X x := glb_of h
theorem okNm_of {x : Str} (h : okNm x = true) : (x == ("__debug__" : Str)) = false ∧ (x == ("__classdict__" : Str)) = false ∧ x ≠ "__name__" := by
  unfold okNm at h
  simp only [Bool.and_eq_true, Bool.not_eq_true'] at h
  exact ⟨h.1.1, h.1.2, fun z => by subst z; exact absurd h.2 (by decide)⟩

theorem snd_var {i : Nat} {x : Str} {pos : Pos} (hN : X.N[i]? = some x) (hv : visB X.env.scope x = true) (ho : okNm x = true) : SndE X cl (fun env h => ok? (env i) h) (.Name x pos) := by
  intro ρ vh env σ H Q w vh' R E e p
  obtain ⟨e1, rfl⟩ := ok?_ok e
  obtain ⟨v, h1, h2⟩ := E.2 i w e1
  obtain ⟨o1, o2, _⟩ := okNm_of ho
  exact WE.of (pe_var hN (vis_of hv) o1 o2) ⟨v, h1, p.at R h2⟩
theorem snd_cst {w0 : W} {e : Expr} (hc : cstB w0 e = true) : SndE X cl (fun _ h => .ok w0 h) e := by
  intro ρ vh env σ H Q w vh' R E e1 p
  cases e1
  unfold cstB at hc
  split at hc
  · exact WE.of pe_non (p.at R (vr_non.mpr rfl))
  · cases (beq_iff_eq.mp hc); exact WE.of pe_bl (p.at R (vr_bl.mpr rfl))
  · cases (of_decide_eq_true hc); exact WE.of pe_int (p.at R (vr_int.mpr rfl))
  · cases (of_decide_eq_true hc); exact WE.of pe_str (p.at R (vr_str.mpr rfl))
  · cases hc
theorem snd_gl (ok : XOk P G n cl X) {x : Str} {pos : Pos} (hg : glbB X.env.scope x = true) (ho : okNm x = true) : SndE X cl (fun _ h => ok? (P.glob x) h) (.Name x pos) := by
  intro ρ vh env σ H Q w vh' R E e p
  obtain ⟨e1, rfl⟩ := ok?_ok e
  obtain ⟨u, v, h1, h2, h3⟩ := ok.glb x w e1
  exact WE.of (pe_glob (gl_of hg) h1 h2 (okNm_of ho).1) (p.at R (h3 _ _))
theorem snd_binE (ok : XOk P G n cl X) {ma mb : Env → VH → R W} {a b : Expr} {o : Bop} {o' : Operator} {pos : Pos} (ho : bopB o o' = true) (ha : SndE X cl ma a) (hb : SndE X cl mb b) :
    SndE X cl (fun env h => (ma env h).bind fun x h1 => (mb env h1).bind fun y h2 => binW o x y h2) (.BinOp a o' b pos) := by
  intro ρ vh env σ H Q w vh' R E e p
  obtain ⟨x, h1, e1, e'⟩ := bnd e; clear e; have e := e'; clear e'
  obtain ⟨y, h2, e2, e'⟩ := bnd e; clear e; have e := e'; clear e'
  exact WE.of (pe_op oWO pWE pWE) (snd2 ha hb R E e1 e2 fun ρ2 H2 v u F2 R2 V1 V2 => snd_bin ho R2 V1 V2 e (p.from F2))

theorem snd_negE {ma : Env → VH → R W} {a : Expr} {pos : Pos} (ha : SndE X cl ma a) : SndE X cl (fun env h => (ma env h).bind fun x h1 => match x with | .int i => .ok (.int (-i)) h1 | _ => .bad) (.UnaryOp .USub a pos) := by
  intro ρ vh env σ H Q w vh' R E e p
  obtain ⟨x, h1, e1, e'⟩ := bnd e; clear e; have e := e'; clear e'
  refine WE.of (pe_un un_neg pWE) (ha ρ vh env σ H _ x h1 R E e1 fun ρ1 H1 v F1 R1 V1 => ?_)
  try dsimp only at e
  split at e
  · cases e
    rw [vr_int.mp V1]
    exact ⟨_, rfl, (p.from F1).at R1 (vr_int.mpr rfl)⟩
  · cases e
theorem snd_ntE {ma : Env → VH → R W} {a : Expr} {pos : Pos} (ha : SndE X cl ma a) : SndE X cl (fun env h => (ma env h).bind fun x h1 => (ok? (truW h1 x) h1).bind fun b h2 => .ok (.bl (!b)) h2) (.UnaryOp .Not a pos) := by
  intro ρ vh env σ H Q w vh' R E e p
  obtain ⟨x, h1, e1, e'⟩ := bnd e; clear e; have e := e'; clear e'
  obtain ⟨k, h2, e2, e'⟩ := bnd e; clear e; have e := e'; clear e'
  obtain ⟨e2, rfl⟩ := ok?_ok e2
  cases e
  exact WE.of (pe_notT pWE) (ha ρ vh env σ H _ x _ R E e1 fun ρ1 H1 v F1 R1 V1 => ⟨k, tru_of R1 e2 V1, (p.from F1).at R1 (vr_bl.mpr rfl)⟩)
theorem snd_cmpE (ok : XOk P G n cl X) {ma mb : Env → VH → R W} {a b : Expr} {o : Cop} {o' : CmpOp} {pos : Pos} (ho : copB o o' = true) (hb' : notSet b = true) (ha : SndE X cl ma a) (hb : SndE X cl mb b) :
    SndE X cl (fun env h => (ma env h).bind fun x h1 => (mb env h1).bind fun y h2 => (ok? (cmpW o x y h2) h2).bind fun k h3 => .ok (.bl k) h3) (.Compare a [o'] [b] pos) := by
  intro ρ vh env σ H Q w vh' R E e p
  obtain ⟨x, h1, e1, e'⟩ := bnd e; clear e; have e := e'; clear e'
  obtain ⟨y, h2, e2, e'⟩ := bnd e; clear e; have e := e'; clear e'
  obtain ⟨k, h3, e3, e'⟩ := bnd e; clear e; have e := e'; clear e'
  obtain ⟨e3, rfl⟩ := ok?_ok e3
  cases e
  exact WE.of (pe_cmpR oWO pWE pWE (behind_of hb' _)) (snd2 ha hb R E e1 e2 fun ρ2 H2 v u F2 R2 V1 V2 => snd_cmp ho ok.units65 R2 V1 V2 e3 ((p.from F2).at R2 (vr_bl.mpr rfl)))
theorem snd_cmpT (ok : XOk P G n cl X) {ma mb : Env → VH → R W} {a b : Expr} {o : Cop} {o' : CmpOp} {pos : Pos} (ho : copB o o' = true) (hb' : notSet b = true) (ha : SndE X cl ma a) (hb : SndE X cl mb b) :
    SndT X cl (fun env h => (ma env h).bind fun x h1 => (mb env h1).bind fun y h2 => ok? (cmpW o x y h2) h2) (.Compare a [o'] [b] pos) := by
  intro ρ vh env σ H Q k vh' R E e p
  obtain ⟨x, h1, e1, e'⟩ := bnd e; clear e; have e := e'; clear e'
  obtain ⟨y, h2, e2, e3⟩ := bnd e
  obtain ⟨e3, rfl⟩ := ok?_ok e3
  exact WT.of (pt_cmpR oWO pWE pWE (behind_of hb' _)) (snd2 ha hb R E e1 e2 fun ρ2 H2 v u F2 R2 V1 V2 => snd_cmp ho ok.units65 R2 V1 V2 e3 ⟨_, rfl, p _ _ F2 R2⟩)
theorem snd_chnE (ok : XOk P G n cl X) {ma mb mc : Env → VH → R W} {a b c : Expr} {o q : Cop} {o' q' : CmpOp} {pos : Pos} (ho : copB o o' = true) (hq : copB q q' = true) (hb' : notSet b = true) (hc' : notSet c = true)
    (ha : SndE X cl ma a) (hb : SndE X cl mb b) (hc : SndE X cl mc c) :
    SndE X cl (fun env h => (ma env h).bind fun x h1 => (mb env h1).bind fun y h2 => (ok? (cmpW o x y h2) h2).bind fun k h3 =>
      if k then (mc env h3).bind fun z h4 => (ok? (cmpW q y z h4) h4).bind fun k h5 => .ok (.bl k) h5 else .ok (.bl false) h3) (.Compare a [o', q'] [b, c] pos) := by
  intro ρ vh env σ H Q w vh' R E e p
  obtain ⟨x, h1, e1, e'⟩ := bnd e; clear e; have e := e'; clear e'
  obtain ⟨y, h2, e2, e'⟩ := bnd e; clear e; have e := e'; clear e'
  obtain ⟨k, h3, e3, e'⟩ := bnd e; clear e; have e := e'; clear e'
  obtain ⟨e3, rfl⟩ := ok?_ok e3
  refine WE.of (pe_chain oWO oWO pWE pWE pWE (last_of hb' hc' _ _)) (snd2 ha hb R E e1 e2 fun ρ2 H2 v u F2 R2 V1 V2 => snd_cmp ho ok.units65 R2 V1 V2 e3 ⟨k, rfl, ?_⟩)
  cases k with
  | false =>
    simp only [Bool.false_eq_true, if_false] at e ⊢
    cases e
    exact (p.from F2).at R2 (vr_bl.mpr rfl)
  | true =>
    simp only [if_true] at e ⊢
    obtain ⟨z, h4, e4, e'⟩ := bnd e; clear e; have e := e'; clear e'
    obtain ⟨k2, h5, e5, e'⟩ := bnd e; clear e; have e := e'; clear e'
    obtain ⟨e5, rfl⟩ := ok?_ok e5
    cases e
    exact hc ρ2 _ env σ H2 _ z _ R2 (E.stay R F2) e4 fun ρ3 H3 z' F3 R3 V3 => snd_cmp hq ok.units65 R3 (V2.stay R2 F3) V3 e5 ((p.from (F2.trans F3)).at R3 (vr_bl.mpr rfl))
theorem snd_chnT (ok : XOk P G n cl X) {ma mb mc : Env → VH → R W} {a b c : Expr} {o q : Cop} {o' q' : CmpOp} {pos : Pos} (ho : copB o o' = true) (hq : copB q q' = true) (hb' : notSet b = true) (hc' : notSet c = true)
    (ha : SndE X cl ma a) (hb : SndE X cl mb b) (hc : SndE X cl mc c) :
    SndT X cl (fun env h => ((ma env h).bind fun x h1 => (mb env h1).bind fun y h2 => (ok? (cmpW o x y h2) h2).bind fun k h3 =>
      if k then (mc env h3).bind fun z h4 => (ok? (cmpW q y z h4) h4).bind fun k h5 => .ok (.bl k) h5 else .ok (.bl false) h3).bind fun x h1 => ok? (truW h1 x) h1) (.Compare a [o', q'] [b, c] pos) := by
  intro ρ vh env σ H Q w vh' R E e p
  obtain ⟨wv, h0, e, ew⟩ := bnd e
  obtain ⟨x, h1, e1, e'⟩ := bnd e; clear e; have e := e'; clear e'
  obtain ⟨y, h2, e2, e'⟩ := bnd e; clear e; have e := e'; clear e'
  obtain ⟨k, h3, e3, e'⟩ := bnd e; clear e; have e := e'; clear e'
  obtain ⟨e3, rfl⟩ := ok?_ok e3
  obtain ⟨ew, rfl⟩ := ok?_ok ew
  refine WT.of (pt_chain oWO oWO pWE pWE pWE (last_of hb' hc' _ _)) (snd2 ha hb R E e1 e2 fun ρ2 H2 v u F2 R2 V1 V2 => snd_cmp ho ok.units65 R2 V1 V2 e3 ⟨k, rfl, ?_⟩)
  cases k with
  | false =>
    simp only [Bool.false_eq_true, if_false] at e ⊢
    cases e; cases ew
    exact ⟨_, rfl, p _ _ F2 R2⟩
  | true =>
    simp only [if_true] at e ⊢
    obtain ⟨z, h4, e4, e'⟩ := bnd e; clear e; have e := e'; clear e'
    obtain ⟨k2, h5, e5, e'⟩ := bnd e; clear e; have e := e'; clear e'
    obtain ⟨e5, rfl⟩ := ok?_ok e5
    cases e; cases ew
    exact hc ρ2 _ env σ H2 _ z _ R2 (E.stay R F2) e4 fun ρ3 H3 z' F3 R3 V3 => snd_cmp hq ok.units65 R3 (V2.stay R2 F3) V3 e5 ⟨_, rfl, p _ _ (F2.trans F3) R3⟩
theorem snd_iteE {mt : Env → VH → R Bool} {ma mb : Env → VH → R W} {c a b : Expr} {pos : Pos} (hc : SndT X cl mt c) (ha : SndE X cl ma a) (hb : SndE X cl mb b) :
    SndE X cl (fun env h => (mt env h).bind fun k h2 => if k then ma env h2 else mb env h2) (.IfExp c a b pos) := by
  intro ρ vh env σ H Q w vh' R E e p
  obtain ⟨k, h1, e1, e'⟩ := bnd e; clear e; have e := e'; clear e'
  refine WE.of (pe_ifExp pWT pWE pWE) (hc ρ vh env σ H _ k h1 R E e1 fun ρ1 H1 F1 R1 => ?_)
  cases k with
  | false => exact hb ρ1 h1 env σ H1 _ w vh' R1 (E.stay R F1) e (p.from F1)
  | true => exact ha ρ1 h1 env σ H1 _ w vh' R1 (E.stay R F1) e (p.from F1)
theorem pt_ite {c a b : Expr} {pos : Pos} {tc ta tb : TT} (hc : PT X c tc) (ha : PT X a ta) (hb : PT X b tb) : PT X (.IfExp c a b pos) (fun σ H Q => tc σ H fun k H1 => if k = true then ta σ H1 Q else tb σ H1 Q) := by
  refine ⟨fun pins s σ H Q I h => ?_⟩
  show wpAny _ _ (do if ← isTrue c X.env (eval c X.env) then isTrue a X.env (eval a X.env) else isTrue b X.env (eval b X.env)) _ _ _
  refine wpAny_bind (thn (hc.run pins s σ H _ I h) fun k s1 ⟨H1, I1, q⟩ => ?_)
  cases k with
  | true => exact ha.run pins s1 σ H1 Q I1 q
  | false => exact hb.run pins s1 σ H1 Q I1 q
theorem snd_iteT {mt ma mb : Env → VH → R Bool} {c a b : Expr} {pos : Pos} (hc : SndT X cl mt c) (ha : SndT X cl ma a) (hb : SndT X cl mb b) :
    SndT X cl (fun env h => (mt env h).bind fun k h2 => if k then ma env h2 else mb env h2) (.IfExp c a b pos) := by
  intro ρ vh env σ H Q w vh' R E e p
  obtain ⟨k, h1, e1, e'⟩ := bnd e; clear e; have e := e'; clear e'
  refine WT.of (pt_ite pWT pWT pWT) (hc ρ vh env σ H _ k h1 R E e1 fun ρ1 H1 F1 R1 => ?_)
  cases k with
  | false => exact hb ρ1 h1 env σ H1 _ w vh' R1 (E.stay R F1) e (p.from F1)
  | true => exact ha ρ1 h1 env σ H1 _ w vh' R1 (E.stay R F1) e (p.from F1)
theorem snd_valT {ma : Env → VH → R W} {a : Expr} (hp : plainT a = true) (ha : SndE X cl ma a) : SndT X cl (fun env h => (ma env h).bind fun x h1 => ok? (truW h1 x) h1) a := by
  intro ρ vh env σ H Q k vh' R E e p
  obtain ⟨x, h1, e1, e'⟩ := bnd e; clear e; have e := e'; clear e'
  obtain ⟨e, rfl⟩ := ok?_ok e
  exact WT.of (pt_truth pWE (plainT_of hp _)) (ha ρ vh env σ H _ x _ R E e1 fun ρ1 H1 v F1 R1 V1 => ⟨k, tru_of R1 e V1, p _ _ F1 R1⟩)
theorem snd_ntT {mt : Env → VH → R Bool} {a : Expr} {pos : Pos} (ha : SndT X cl mt a) : SndT X cl (fun env h => (mt env h).bind fun b h2 => .ok (!b) h2) (.UnaryOp .Not a pos) := by
  intro ρ vh env σ H Q k vh' R E e p
  obtain ⟨b, h1, e1, e'⟩ := bnd e; clear e; have e := e'; clear e'
  cases e
  exact WT.of (pt_not pWT) (ha ρ vh env σ H _ b _ R E e1 fun ρ1 H1 F1 R1 => p _ _ F1 R1)

/-! ### lists -/
theorem snd_nilA : SndA X cl (fun _ h => .ok [] h) [] := by
  intro ρ vh env σ H Q ws vh' R E e p
  cases e
  exact WA.of pa_nil (p ρ H [] Fr.rfl' R .nil)
theorem snd_consA {me : Env → VH → R W} {ms : Env → VH → R (List W)} {e : Expr} {es : List Expr} (hs : notStar e = true) (he : SndE X cl me e) (hes : SndA X cl ms es) :
    SndA X cl (fun env h => (me env h).bind fun x h1 => (ms env h1).bind fun xs h2 => .ok (x :: xs) h2) (e :: es) := by
  intro ρ vh env σ H Q ws vh' R E e' p
  obtain ⟨x, h1, e1, e'⟩ := bnd e'
  obtain ⟨xs, h2, e2, e'⟩ := bnd e'
  cases e'
  refine WA.of (pa_cons pWE pWA (star_cons hs _ _)) (he ρ vh env σ H _ x h1 R E e1 fun ρ1 H1 v F1 R1 V1 => hes ρ1 h1 env σ H1 _ xs _ R1 (E.stay R F1) e2 fun ρ2 H2 vs F2 R2 V2 => p _ _ _ (F1.trans F2) R2 (.cons (V1.stay R1 F2) V2))
theorem snd_tupE {ms : Env → VH → R (List W)} {es : List Expr} {k : Nat} {pos : Pos} (hs : SndA X cl ms es) : SndE X cl (fun env h => (ms env h).bind fun ws h1 => if ws.length ≤ line then .ok (.tup ws) h1 else .bad) (.Tuple es k pos) := by
  intro ρ vh env σ H Q w vh' R E e p
  obtain ⟨ws, h1, e1, e'⟩ := bnd e; clear e; have e := e'; clear e'
  split at e
  · rename_i hl
    cases e
    exact WE.of (pe_tup pWA) (hs ρ vh env σ H _ ws _ R E e1 fun ρ1 H1 vs F1 R1 V1 => ⟨by rw [V1.length, ← line_eq]; exact hl, Post.tup R1 (p.from F1) V1⟩)
  · cases e
theorem snd_lstE {ms : Env → VH → R (List W)} {es : List Expr} {pos : Pos} (hs : SndA X cl ms es) : SndE X cl (fun env h => (ms env h).bind fun ws h1 => newL ws h1) (.List es pos) := by
  intro ρ vh env σ H Q w vh' R E e p
  obtain ⟨ws, h1, e1, e'⟩ := bnd e; clear e; have e := e'; clear e'
  unfold newL at e
  split at e
  · rename_i hl
    cases e
    exact WE.of (pe_lst pWA) (hs ρ vh env σ H _ ws _ R E e1 fun ρ1 H1 vs F1 R1 V1 => ⟨by rw [V1.length, ← line_eq]; exact hl, Post.lst R1 (p.from F1) V1⟩)
  · cases e
theorem snd_ixE (ok : XOk P G n cl X) {ma mb : Env → VH → R W} {a b : Expr} {pos : Pos} (hb' : notSlice b = true) (ha : SndE X cl ma a) (hb : SndE X cl mb b) :
    SndE X cl (fun env h => (ma env h).bind fun x h1 => (mb env h1).bind fun y h2 => ok? (ixW h2 x y) h2) (.Subscript a b pos) := by
  intro ρ vh env σ H Q w vh' R E e p
  obtain ⟨x, h1, e1, e'⟩ := bnd e; clear e; have e := e'; clear e'
  obtain ⟨y, h2, e2, e'⟩ := bnd e; clear e; have e := e'; clear e'
  obtain ⟨e, rfl⟩ := ok?_ok e
  have seq : (∀ ρ2 H2 v u, Fr ρ H ρ2 H2 → Rel X.K cl ρ2 vh' H2 → ValR X.K ρ2 H2 x v → ValR X.K ρ2 H2 y u → rIx X.K v u H2 Q) → WE X (.Subscript a b pos) σ H Q := fun q =>
    WE.of (pe_ix ix_seq pWE pWE (plainIx_of hb')) (snd2 ha hb R E e1 e2 q)
  have dic : (∀ ρ2 H2 v u, Fr ρ H ρ2 H2 → Rel X.K cl ρ2 vh' H2 → ValR X.K ρ2 H2 x v → ValR X.K ρ2 H2 y u → ∃ a v', v = .ref a ∧ DGet H2 a u (some v') ∧ Q v' H2) → WE X (.Subscript a b pos) σ H Q := fun q =>
    WE.of (pe_dget ok.units1 pWE pWE (plainIx_of hb')) (snd2 ha hb R E e1 e2 q)
  cases x with
  | tup ws =>
    cases y <;> simp only [ixW] at e <;> first | cases e | skip
    refine seq fun ρ2 H2 v u F2 R2 V1 V2 => ?_
    obtain ⟨q, xs, rfl, h3, h4⟩ := vr_tup.mp V1
    rw [vr_int.mp V2]
    exact snd_ixS R2 (.inr h3) h4 e (p.from F2)
  | rol ws =>
    cases y <;> simp only [ixW] at e <;> first | cases e | skip
    refine seq fun ρ2 H2 v u F2 R2 V1 V2 => ?_
    obtain ⟨q, xs, rfl, h3, h4⟩ := vr_rol.mp V1
    rw [vr_int.mp V2]
    exact snd_ixS R2 (.inl h3.sql) h4 e (p.from F2)
  | ref r =>
    simp only [ixW] at e
    split at e
    · rename_i kvs hk
      refine dic fun ρ2 H2 v u F2 R2 V1 V2 => ?_
      obtain ⟨q, l, rfl, _, h3, h4⟩ := R2.dct hk V1
      split at e
      · rename_i k hk2
        obtain ⟨z, hz, hzr⟩ := kvr_some h4 e
        refine ⟨q, z, rfl, ?_, (p.from F2).at R2 hzr⟩
        rw [keyW_kV hk2 V2, ← hz]
        exact DGet.k h3
      · cases e
    · rename_i ws hk
      cases y <;> simp only at e <;> first | cases e | skip
      refine seq fun ρ2 H2 v u F2 R2 V1 V2 => ?_
      obtain ⟨q, xs, rfl, _, h3, h4⟩ := R2.lst hk V1
      rw [vr_int.mp V2]
      exact snd_ixS R2 (.inl (SqL.of h3)) h4 e (p.from F2)
    · cases e
  | _ => simp [ixW] at e

/-! ### slices -/
abbrev WOp (X : Cx) (e : Option Expr) : TO := fun σ H Q => ∀ t, PO X e t → ∀ (_ : True), t σ H Q
def SndO (X : Cx) (cl : Nat → Option Addr) (m : Env → VH → R (Option Int)) (e : Option Expr) : Prop := ∃ t, PO X e t ∧ ∀ ρ vh env σ H Q i vh', Rel X.K cl ρ vh H → EnvR X.K X.N ρ H env σ → m env vh = .ok i vh' →
  (∀ ρ' H', Fr ρ H ρ' H' → Rel X.K cl ρ' vh' H' → Q i H') → t σ H Q
theorem snd_O0 : SndO X cl (fun _ h => .ok none h) none := ⟨_, po_none, fun ρ vh env σ H Q i vh' R E e p => by cases e; exact p _ _ Fr.rfl' R⟩
theorem snd_O1 {ma : Env → VH → R W} {a : Expr} (ha : SndE X cl ma a) : SndO X cl (fun env h => (ma env h).bind fun x h1 => match x with | .int i => .ok (some i) h1 | _ => .bad) (some a) := by
  refine ⟨_, po_some pWE, fun ρ vh env σ H Q i vh' R E e p => ?_⟩
  obtain ⟨x, h1, e1, e'⟩ := bnd e; clear e; have e := e'; clear e'
  refine ha ρ vh env σ H _ x h1 R E e1 fun ρ1 H1 v F1 R1 V1 => ?_
  try dsimp only at e
  split at e
  · cases e
    exact ⟨_, vr_int.mp V1, p _ _ F1 R1⟩
  · cases e
theorem snd_slE {ma : Env → VH → R W} {ml mh : Env → VH → R (Option Int)} {a : Expr} {lo hi : Option Expr} {pos p2 : Pos} (ha : SndE X cl ma a) (hl : SndO X cl ml lo) (hh : SndO X cl mh hi) :
    SndE X cl (fun env h => (ma env h).bind fun x h1 => (ml env h1).bind fun l h2 => (mh env h2).bind fun u h3 => slW x l u h3) (.Subscript a (.Slice lo hi none p2) pos) := by
  intro ρ vh env σ H Q w vh' R E e p
  obtain ⟨x, h1, e1, e'⟩ := bnd e; clear e; have e := e'; clear e'
  obtain ⟨l, h2, e2, e'⟩ := bnd e; clear e; have e := e'; clear e'
  obtain ⟨u, h3, e3, e'⟩ := bnd e; clear e; have e := e'; clear e'
  obtain ⟨tl, pl, ql⟩ := hl
  obtain ⟨th, ph, qh⟩ := hh
  refine WE.of (pe_slice sl_n pWE pl ph) (ha ρ vh env σ H _ x h1 R E e1 fun ρ1 H1 v F1 R1 V1 => ql ρ1 h1 env σ H1 _ l h2 R1 (E.stay R F1) e2 fun ρ2 H2 F2 R2 => ?_)
  refine qh ρ2 h2 env σ H2 _ u h3 R2 ((E.stay R F1).stay R1 F2) e3 fun ρ3 H3 F3 R3 => ?_
  exact snd_sl R3 ((V1.stay R1 F2).stay R2 F3) e (p.from ((F1.trans F2).trans F3))

/-! ### calls -/
theorem snd_callE (ok : XOk P G n cl X) {ms : Env → VH → R (List W)} {f : Nat} {x : Str} {np pos : Pos} {e0 : Expr} {es : List Expr} (hf : G.fn[f]? = some (some x)) (hg : glbB X.env.scope x = true) (ho : okNm x = true) (h0 : notStar e0 = true) (hst : es.all notStar = true) (hs : SndA X cl ms (e0 :: es)) :
    SndE X cl (fun env h => (ms env h).bind fun ws h1 => P.call n f ws h1) (.Call (.Name x np) (e0 :: es) [] pos) := by
  intro ρ vh env σ H Q w vh' R E e p
  obtain ⟨ws, h1, e1, e⟩ := bnd e
  obtain ⟨a, fd, ps, hm, hk, hb, F⟩ := ok.fn f x hf
  exact WE.of (pe_call F ok.room (gl_of hg) hm hk hb .nil pass0 pWA (okNm_of ho).1 (star_cons h0 _ _) (star_plain _ _ hst))
    (hs ρ vh env σ H (fun vs H1 => spF P n f X.K cl (vs ++ []) H1 Q E0) ws h1 R E e1 fun ρ1 H1 vs F1 R1 V1 => ⟨ρ1, h1, ws, w, vh', R1, by rw [List.append_nil]; exact V1, e, p.from F1⟩)
theorem snd_call0E (ok : XOk P G n cl X) {f : Nat} {x : Str} {np pos : Pos} (hf : G.fn[f]? = some (some x)) (hg : glbB X.env.scope x = true) (ho : okNm x = true) : SndE X cl (fun _ h => P.call n f [] h) (.Call (.Name x np) [] [] pos) := by
  intro ρ vh env σ H Q w vh' R E e p
  obtain ⟨a, fd, ps, hm, hk, hb, F⟩ := ok.fn f x hf
  exact WE.of (pe_call0 F ok.room (gl_of hg) hm hk hb .nil pass0 (okNm_of ho).1) ⟨ρ, vh, [], w, vh', R, .nil, e, p⟩
theorem bi_mem (f : Bi) : biNm f ∈ bltNames := by cases f <;> decide +kernel
theorem bi_nm (f : Bi) : biNm f ≠ "__name__" ∧ (biNm f == ("__debug__" : Str)) = false := by cases f <;> decide +kernel
theorem bi_boot (f : Bi) : bootBuiltins (biNm f) = some (biVal f) := by cases f <;> decide +kernel
theorem biVal_cases (f : Bi) : (∃ id, biVal f = .builtin id) ∨ ∃ T, biVal f = .type T := by cases f <;> first | exact .inl ⟨_, rfl⟩ | exact .inr ⟨_, rfl⟩
theorem snd_biE (ok : XOk P G n cl X) {ms : Env → VH → R (List W)} {f : Bi} {x : Str} {np pos : Pos} {e0 : Expr} {es : List Expr} (hx : biNm f = x) (hg : glbB X.env.scope x = true) (h0 : notStar e0 = true) (hst : es.all notStar = true) (hs : SndA X cl ms (e0 :: es)) :
    SndE X cl (fun env h => (ms env h).bind fun ws h1 => biW f ws h1) (.Call (.Name x np) (e0 :: es) [] pos) := by
  subst hx
  intro ρ vh env σ H Q w vh' R E e p
  obtain ⟨ws, h1, e1, e⟩ := bnd e
  have hm : X.mg (biNm f) = none := ok.blt _ (bi_mem f)
  obtain ⟨n1, n2⟩ := bi_nm f
  have q : WA X (e0 :: es) σ H (fun vs H1 => WC X (biVal f) vs H1 Q) := hs ρ vh env σ H _ ws h1 R E e1 fun ρ1 H1 vs F1 R1 V1 => snd_bi ok.calm R1 V1 e (p.from F1)
  rcases biVal_cases f with ⟨id, hv⟩ | ⟨T, hv⟩
  · rw [hv] at q
    exact WE.of (pe_callB cWC (gl_of hg) hm (by rw [bi_boot, hv]) pWA n1 n2 (star_cons h0 _ _) (star_plain _ _ hst)) q
  · rw [hv] at q
    exact WE.of (pe_callTy cWC (gl_of hg) hm (by rw [bi_boot, hv]) pWA n1 n2 (star_cons h0 _ _) (star_plain _ _ hst)) q
theorem ty_mem (t : Ty) : tyNm t ∈ bltNames := by cases t <;> decide +kernel
theorem ty_nm (t : Ty) : tyNm t ≠ "__name__" ∧ (tyNm t == ("__debug__" : Str)) = false := by cases t <;> decide +kernel
theorem ty_boot (t : Ty) : bootBuiltins (tyNm t) = some (.type (tyStr t)) := by cases t <;> decide +kernel
theorem snd_isiE (ok : XOk P G n cl X) {ma : Env → VH → R W} {t : Ty} {x y : Str} {np yp pos : Pos} {a : Expr} (hx : x = ("isinstance" : Str)) (hg : glbB X.env.scope x = true) (hy : y = tyNm t) (hgy : glbB X.env.scope y = true) (h0 : notStar a = true) (ha : SndE X cl ma a) :
    SndE X cl (fun env h => (ma env h).bind fun x h1 => (ok? (isiW h1 t x) h1).bind fun k h2 => .ok (.bl k) h2) (.Call (.Name x np) [a, .Name y yp] [] pos) := by
  subst hx hy
  intro ρ vh env σ H Q w vh' R E e p
  obtain ⟨x, h1, e1, e'⟩ := bnd e; clear e
  obtain ⟨k, h2, e2, e⟩ := bnd e'; clear e'
  cases e
  obtain ⟨e2, rfl⟩ := ok?_ok e2
  have hm : X.mg "isinstance" = none := ok.blt _ (by decide +kernel)
  have hmy : X.mg (tyNm t) = none := ok.blt _ (ty_mem t)
  obtain ⟨n1, n2⟩ := ty_nm t
  have py : PE X (.Name (tyNm t) yp) (tC (.ty (tyStr t))) := pe_bltn (gl_of hgy) hmy (ty_boot t) rfl n1 n2
  refine WE.of (pe_callB cWC (gl_of hg) hm boot_isinstance (pa_cons pWE (pa_cons py pa_nil) (star_cons h0 _ _)) (by decide +kernel) (by decide +kernel) (star_cons h0 _ _) rfl) ?_
  exact ha ρ vh env σ H _ x _ R E e1 fun ρ1 H1 v F1 R1 V1 => snd_isi R1 V1 e2 ((p.from F1).at R1 (vr_bl.mpr rfl))

/-! ### methods of lists -/
theorem lm_facts {m : Str} {id : String} (h : LM m id) : Slot "list" m id ∧ typeOf (.builtin id) = pure (.type "method_descriptor") := by
  cases h with
  | append => exact ⟨PySem.F.slot_list_append, PySem.F.type_list_append⟩
  | extend => exact ⟨PySem.F.slot_list_extend, PySem.F.type_list_extend⟩
  | pop => exact ⟨PySem.F.slot_list_pop, PySem.F.type_list_pop⟩
  | index => exact ⟨PySem.F.slot_list_index, PySem.F.type_list_index⟩
  | count => exact ⟨PySem.F.slot_list_count, PySem.F.type_list_count⟩
  | remove => exact ⟨PySem.F.slot_list_remove, PySem.F.type_list_remove⟩
  | insert => exact ⟨PySem.F.slot_list_insert, PySem.F.type_list_insert⟩
/-- the method's name tells its rule -/
def lmId (m : Str) : Option String :=
  if m = S [97, 112, 112, 101, 110, 100] then some "list.append" else if m = S [101, 120, 116, 101, 110, 100] then some "list.extend" else if m = S [112, 111, 112] then some "list.pop"
  else if m = S [105, 110, 100, 101, 120] then some "list.index" else if m = S [99, 111, 117, 110, 116] then some "list.count"
  else if m = S [114, 101, 109, 111, 118, 101] then some "list.remove" else if m = S [105, 110, 115, 101, 114, 116] then some "list.insert" else none
theorem lm_id {m : Str} {id : String} (h : LM m id) : lmId m = some id := by cases h <;> decide +kernel
theorem lmW_id {m : Str} {r : Nat} {as : List W} {h h' : VH} {w : W} (e : lmW m r as h = .ok w h') : ∃ id, lmId m = some id ∧ LM m id := by
  unfold lmW at e
  split at e
  · split at e
    · rename_i hm; subst hm; exact ⟨_, by decide +kernel, .append⟩
    · split at e
      · rename_i hm; subst hm; exact ⟨_, by decide +kernel, .extend⟩
      · split at e
        · rename_i hm; subst hm; exact ⟨_, by decide +kernel, .pop⟩
        · split at e
          · rename_i hm; subst hm; exact ⟨_, by decide +kernel, .index⟩
          · split at e
            · rename_i hm; subst hm; exact ⟨_, by decide +kernel, .count⟩
            · split at e
              · rename_i hm; subst hm; exact ⟨_, by decide +kernel, .remove⟩
              · split at e
                · rename_i hm; subst hm; exact ⟨_, by decide +kernel, .insert⟩
                · cases e
  · cases e
abbrev mthK (C : Cfg) (m : Str) (x : W) (ws : List W) (h1 h2 : VH) : R W := match x with
      | .ref r => match h1[r]? with
        | some (.lst _) => lmW m r ws h2
        | some (.ins c _) => match C.meth c m with | some f => C.call f (x :: ws) h2 | none => .bad
        | _ => .bad
      | _ => .bad
theorem mthK_cases {C : Cfg} {m : Str} {x w : W} {ws : List W} {h1 h2 h' : VH} (e : mthK C m x ws h1 h2 = .ok w h') : ∃ r, x = .ref r ∧ ((∃ zs, h1[r]? = some (.lst zs) ∧ lmW m r ws h2 = .ok w h') ∨
    ∃ c fs f, h1[r]? = some (.ins c fs) ∧ C.meth c m = some f ∧ C.call f (.ref r :: ws) h2 = .ok w h') := by
  unfold mthK at e
  split at e
  · split at e
    · exact ⟨_, rfl, .inl ⟨_, by assumption, e⟩⟩
    · split at e
      · exact ⟨_, rfl, .inr ⟨_, _, _, by assumption, by assumption, e⟩⟩
      · cases e
    · cases e
  · cases e
theorem meth_eq {o : Expr} {m : Str} {ap cp : Pos} {args : List Expr} {env : PySem.Env} (hbase : attributeBase o m env (eval o env) = eval o env)
    (hform : methodCallForm (args.length + ([] : List Keyword).length) (backTo cp (starEach args env)) (backToKw cp (keywordEach [] env)) = true) (hline : (ap.endLine == cp.line) = true) :
    eval (.Call (.Attribute o m ap) args [] cp) env = (do
      let ov ← eval o env
      standAt ap.atName
      let (f, first) ← holding [ov] (getMethod ov m (do return (← importBound o env).getD true))
      callWith cp f first (backTo cp (starEach args env)) (backToKw cp (keywordEach [] env))) := by
  have hpos : methodCallPos true o env ap cp = pure cp := by unfold methodCallPos; simp [hline]
  rw [arm_eval_Call, hbase]
  unfold methodCall
  rw [hform, hpos]
  rfl
theorem kvr_fget {K : PySem.W.Frag} {ρ : List Addr} {H : Hp} {f : Str} : ∀ {fs : List (Str × W)} {l : List (Str × V)} {w : W}, KvR K ρ H fs l → fget fs f = some w → (∃ v, l.lookup f = some v ∧ ValR K ρ H w v) ∧ ∃ p ∈ fs, p.1 = f
  | [], _, _, _, e => by simp [fget] at e
  | (k, x) :: fs, _, w, h, e => by
    obtain ⟨y, l', rfl, h1, h2⟩ := h
    unfold fget at e
    by_cases hk : k = f
    · subst hk
      rw [if_pos rfl] at e
      cases e
      exact ⟨⟨y, by simp, h1⟩, _, List.mem_cons_self .., rfl⟩
    · rw [if_neg hk] at e
      obtain ⟨⟨v, q1, q2⟩, p, q3, q4⟩ := kvr_fget h2 e
      refine ⟨⟨v, ?_, q2⟩, p, by simp [q3], q4⟩
      rw [List.lookup_cons, show (f == k) = false from by simpa using fun z => hk z.symm]
      exact q1
theorem kvr_fnone {K : PySem.W.Frag} {ρ : List Addr} {H : Hp} {f : Str} : ∀ {fs : List (Str × W)} {l : List (Str × V)}, KvR K ρ H fs l → (∀ p ∈ fs, p.1 ≠ f) → l.lookup f = none
  | [], _, h, _ => by have e : _ = [] := h; rw [e]; rfl
  | (k, x) :: fs, _, h, n => by
    obtain ⟨y, l', rfl, h1, h2⟩ := h
    have hk : k ≠ f := n _ (List.mem_cons_self ..)
    rw [List.lookup_cons, show (f == k) = false from by simpa using fun z => hk z.symm]
    exact kvr_fnone h2 fun p hp => n p (List.mem_cons_of_mem _ hp)
theorem kvr_fset {K : PySem.W.Frag} {ρ : List Addr} {H : Hp} {f : Str} {w : W} {v : V} (hw : ValR K ρ H w v) : ∀ {fs : List (Str × W)} {l : List (Str × V)}, KvR K ρ H fs l → KvR K ρ H (fset fs f w) (putF f v l)
  | [], _, h => by have e : _ = [] := h; rw [e]; exact ⟨v, [], rfl, hw, rfl⟩
  | (k, x) :: fs, _, h => by
    obtain ⟨y, l', rfl, h1, h2⟩ := h
    unfold fset putF
    by_cases hk : k = f
    · rw [if_pos hk, if_pos hk]; exact ⟨v, l', rfl, hw, h2⟩
    · rw [if_neg hk, if_neg hk]; exact ⟨y, _, rfl, h1, kvr_fset hw h2⟩
theorem fset_keys {f : Str} {w : W} : ∀ {fs : List (Str × W)}, ∀ p ∈ fset fs f w, p.1 = f ∨ ∃ q ∈ fs, q.1 = p.1
  | [], p, h => by simp [fset] at h; exact .inl (by rw [h])
  | (k, x) :: fs, p, h => by
    unfold fset at h
    split at h
    · rename_i hk
      rcases List.mem_cons.mp h with rfl | h
      · exact .inl hk
      · exact .inr ⟨p, List.mem_cons_of_mem _ h, rfl⟩
    · rcases List.mem_cons.mp h with rfl | h
      · exact .inr ⟨_, List.mem_cons_self .., rfl⟩
      · rcases fset_keys p h with q | ⟨q, q1, q2⟩
        · exact .inl q
        · exact .inr ⟨q, List.mem_cons_of_mem _ q1, q2⟩
theorem kvr_flen {K : PySem.W.Frag} {ρ : List Addr} {H : Hp} : ∀ {fs : List (Str × W)} {l : List (Str × V)}, KvR K ρ H fs l → l.length = fs.length
  | [], _, h => by have e : _ = [] := h; rw [e]; rfl
  | (k, x) :: fs, _, h => by
    obtain ⟨y, l', rfl, h1, h2⟩ := h
    rw [List.length_cons, List.length_cons, kvr_flen h2]
/-- an own method is no field -/
theorem meth_nofield {K : PySem.W.Frag} {A g : Addr} {m : Str} {fs : List (Str × W)} (M : Meth K A m g) (n : ∀ p ∈ fs, NoAttr K A p.1) : ∀ p ∈ fs, p.1 ≠ m := fun p hp e => by
  have h1 : PySem.W.findIn K (.ref A) p.1 = some none := n p hp
  rw [e, M.at_] at h1
  cases h1
theorem snd_mthE (ok : XOk P G n cl X) {mo : Env → VH → R W} {ms : Env → VH → R (List W)} {m : Str} {o e0 : Expr} {es : List Expr} {ap cp : Pos} (hsup : notSup o = true) (hline : ap.endLine = cp.line) (h0 : notStar e0 = true) (hst : es.all notStar = true) (hfew : (e0 :: es).length < 30)
    (ho : SndE X cl mo o) (hs : SndA X cl ms (e0 :: es)) :
    SndE X cl (fun env h => (mo env h).bind fun x h1 => (ms env h1).bind fun ws h2 => mthK (P.cfg n) m x ws h1 h2) (.Call (.Attribute o m ap) (e0 :: es) [] cp) := by
  intro ρ vh env σ H Q w vh' R E e p
  obtain ⟨x, h1, e1, e'⟩ := bnd e; clear e
  obtain ⟨ws, h2, e2, e⟩ := bnd e'; clear e'
  obtain ⟨r, rfl, ⟨zs, hz, e⟩ | ⟨c, fs, f, hz, hmt, e⟩⟩ := mthK_cases e
  · obtain ⟨id, _, hlm⟩ := lmW_id e
    obtain ⟨sl, ty⟩ := lm_facts hlm
    have hst' : (e0 :: es).all notStar = true := by rw [List.all_cons, h0, hst]; rfl
    refine WE.of (pe_bm PySem.F.plainAttrs_list sl ty mWM pWE pWA (notSup_of hsup _ _) ?_ (beq_iff_eq.mpr hline) (star_cons h0 _ _) (star_plain _ _ hst)) ?_
    · rw [star_few _ _ hst']
      simp only [keywordEach, backToKw, List.map_nil, List.all_nil, Bool.true_and, decide_eq_true_eq, List.length_nil, List.isEmpty_nil, if_true]
      omega
    · refine ho ρ vh env σ H _ _ h1 R E e1 fun ρ1 H1 v F1 R1 V1 => ?_
      obtain ⟨q, xs, rfl, hr, hq, _⟩ := R1.lst hz V1
      refine ⟨.inl ⟨rfl, xs, SqL.of hq⟩, hs ρ1 h1 env σ H1 _ ws h2 R1 (E.stay R F1) e2 fun ρ2 H2 vs F2 R2 V2 => ?_⟩
      obtain ⟨id', hlm', hw⟩ := snd_lm R2 (V1.stay R1 F2) V2 e (p.from (F1.trans F2))
      have : id' = id := Option.some.inj ((lm_id hlm').symm.trans (lm_id hlm))
      subst this
      exact hw
  · obtain ⟨A, g, fd, ps, hA, M, hb, F⟩ := ok.meth c m f hmt
    have hst' : (e0 :: es).all notStar = true := by rw [List.all_cons, h0, hst]; rfl
    have hform : methodCallForm ((e0 :: es).length + ([] : List Keyword).length) (backTo cp (starEach (e0 :: es) X.env)) (backToKw cp (keywordEach [] X.env)) = true := by
      unfold methodCallForm
      rw [star_few _ _ hst']
      simp only [keywordEach, backToKw, List.map_nil, List.all_nil, Bool.true_and, decide_eq_true_eq, List.length_nil, List.isEmpty_nil, if_true]
      omega
    refine WE.of (pe_meth pWE (ok.isC c A hA) M F ok.room hb .nil pass0 pWA (star_cons h0 _ _) (star_plain _ _ hst) (meth_eq (notSup_of hsup _ _) hform (beq_iff_eq.mpr hline))) ?_
    refine ho ρ vh env σ H _ _ h1 R E e1 fun ρ1 H1 v F1 R1 V1 => ?_
    obtain ⟨q, rfl, hr⟩ := vr_ref.mp V1
    obtain ⟨C, dx, l, hc, h3, h4, h5⟩ := R1.at hr hz
    rw [hA] at hc; cases hc
    refine ⟨q, dx, l, rfl, h3, kvr_fnone h4 (meth_nofield M h5), hs ρ1 h1 env σ H1 _ ws h2 R1 (E.stay R F1) e2 fun ρ2 H2 vs F2 R2 V2 => ?_⟩
    exact ⟨ρ2, h2, _, w, vh', R2, .cons (V1.stay R1 F2) (by rw [List.append_nil]; exact V2), e, p.from (F1.trans F2)⟩
theorem snd_mth0E (ok : XOk P G n cl X) {mo : Env → VH → R W} {m : Str} {o : Expr} {ap cp : Pos} (hsup : notSup o = true) (hline : ap.endLine = cp.line) (ho : SndE X cl mo o) :
    SndE X cl (fun env h => (mo env h).bind fun x h1 => mthK (P.cfg n) m x [] h1 h1) (.Call (.Attribute o m ap) [] [] cp) := by
  intro ρ vh env σ H Q w vh' R E e p
  obtain ⟨x, h1, e1, e'⟩ := bnd e; clear e
  obtain ⟨r, rfl, ⟨zs, hz, e⟩ | ⟨c, fs, f, hz, hmt, e⟩⟩ := mthK_cases e'
  · obtain ⟨id, _, hlm⟩ := lmW_id e
    obtain ⟨sl, ty⟩ := lm_facts hlm
    refine WE.of (pe_bm0 PySem.F.plainAttrs_list sl ty mWM pWE (notSup_of hsup _ _) (beq_iff_eq.mpr hline)) ?_
    refine ho ρ vh env σ H _ _ h1 R E e1 fun ρ1 H1 v F1 R1 V1 => ?_
    obtain ⟨q, xs, rfl, hr, hq, _⟩ := R1.lst hz V1
    refine ⟨.inl ⟨rfl, xs, SqL.of hq⟩, ?_⟩
    obtain ⟨id', hlm', hw⟩ := snd_lm R1 V1 (ValsR.nil) e (p.from F1)
    have : id' = id := Option.some.inj ((lm_id hlm').symm.trans (lm_id hlm))
    subst this
    exact hw
  · obtain ⟨A, g, fd, ps, hA, M, hb, F⟩ := ok.meth c m f hmt
    refine WE.of (pe_meth0 pWE (ok.isC c A hA) M F ok.room hb .nil pass0 (meth_eq (notSup_of hsup _ _) rfl (beq_iff_eq.mpr hline))) ?_
    refine ho ρ vh env σ H _ _ h1 R E e1 fun ρ1 H1 v F1 R1 V1 => ?_
    obtain ⟨q, rfl, hr⟩ := vr_ref.mp V1
    obtain ⟨C, dx, l, hc, h3, h4, h5⟩ := R1.at hr hz
    rw [hA] at hc; cases hc
    exact ⟨q, dx, l, rfl, h3, kvr_fnone h4 (meth_nofield M h5), ρ1, h1, _, w, vh', R1, .cons V1 .nil, e, p.from F1⟩
/-! ### fields, new instances, ranges as tuples -/
abbrev fldK (f : Str) (x : W) (h1 : VH) : R W := match x with
      | .ref r => match h1[r]? with | some (.ins _ fs) => ok? (fget fs f) h1 | _ => .bad
      | _ => .bad
theorem snd_fldE (ok : XOk P G n cl X) {mo : Env → VH → R W} {f : Str} {o : Expr} {pos : Pos} (hsup : notSup o = true) (ho : SndE X cl mo o) :
    SndE X cl (fun env h => (mo env h).bind fun x h1 => fldK f x h1) (.Attribute o f pos) := by
  intro ρ vh env σ H Q w vh' R E e p
  obtain ⟨x, h1, e1, e'⟩ := bnd e; clear e
  refine WE.of (pe_fld pWE (notSup_of hsup _ _)) (ho ρ vh env σ H _ _ h1 R E e1 fun ρ1 H1 v F1 R1 V1 => ?_)
  have e' : fldK f x h1 = .ok w vh' := e'
  unfold fldK at e'
  split at e'
  · split at e'
    · rename_i r c fs hz
      obtain ⟨e2, rfl⟩ := ok?_ok e'
      obtain ⟨q, rfl, hr⟩ := vr_ref.mp V1
      obtain ⟨C, dx, l, hc, h3, h4, h5⟩ := R1.at hr hz
      obtain ⟨⟨y, q1, q2⟩, p', q3, q4⟩ := kvr_fget h4 e2
      have na := h5 p' q3
      rw [q4] at na
      exact ⟨q, C, dx, l, y, rfl, h3, ok.isC c C hc, na, q1, p _ _ _ F1 R1 q2⟩
    · cases e'
  · cases e'
theorem mk_inv {k c : Nat} {ws : List W} {h h' : VH} {w : W} (e : P.mk' (P.call k) c ws h = .ok w h') : ∃ f, P.meth c (S [95, 95, 105, 110, 105, 116, 95, 95]) = some f ∧ w = .ref h.length ∧ P.call k f (.ref h.length :: ws) (h ++ [.ins c []]) = .ok .non h' := by
  unfold Prog.mk' at e
  split at e
  · rename_i f hf
    obtain ⟨x, h2, e1, e2⟩ := bnd e
    split at e2
    · cases e2; exact ⟨f, hf, rfl, e1⟩
    · cases e2
  · cases e
theorem new_post {K : PySem.W.Frag} {k c f : Nat} {A : Addr} {ρ : List Addr} {H : Hp} {h h' : VH} {ws : List W} {vs : List V} {Q : VK} (hA : cl c = some A) (R : Rel K cl ρ h H) (V : ValsR K ρ H ws vs) (e : P.call k f (.ref h.length :: ws) (h ++ [.ins c []]) = .ok .non h') (p : Post K cl ρ H h' (.ref h.length) Q) :
    ∀ x dx, H x = none → H dx = none → dx ≠ x → spF P k f K cl (.ref x :: (vs ++ [])) (upd (upd H dx (.own x)) x (.ins A dx [])) (fun v H2 => v = .non ∧ Q (.ref x) H2) E0 := fun x dx hx hdx ne => by
  have R2 : Rel K cl ρ h (upd H dx (.own x)) := R.new hdx
  have hx' : (upd H dx (.own x)) x = none := by rw [upd_ne ne.symm]; exact hx
  have R3 : Rel K cl (ρ ++ [x]) (h ++ [.ins c []]) (upd (upd H dx (.own x)) x (.ins A dx [])) := R2.alloc hx' ⟨A, dx, [], hA, upd_same, rfl, by simp⟩
  have F3 : Fr ρ H (ρ ++ [x]) (upd (upd H dx (.own x)) x (.ins A dx [])) := (Fr.new hdx).trans (Fr.alloc hx')
  refine ⟨_, _, _, _, _, R3, .cons (vr_ref.mpr ⟨x, rfl, R2.fresh⟩) (by rw [List.append_nil]; exact V.stay R F3), e, fun ρ' H' v F' R' V' => ⟨vr_non.mp V', p _ _ _ (F3.trans F') R' (vr_ref.mpr ⟨x, rfl, F'.get R2.fresh⟩)⟩⟩
theorem snd_newE (ok : XOk P G n cl X) {ms : Env → VH → R (List W)} {c : Nat} {x : Str} {np pos : Pos} {e0 : Expr} {es : List Expr} (hf : G.cls[c]? = some x) (hg : glbB X.env.scope x = true) (ho : okNm x = true) (h0 : notStar e0 = true) (hst : es.all notStar = true) (hs : SndA X cl ms (e0 :: es)) :
    SndE X cl (fun env h => (ms env h).bind fun ws h1 => P.make n c ws h1) (.Call (.Name x np) (e0 :: es) [] pos) := by
  intro ρ vh env σ H Q w vh' R E e p
  obtain ⟨ws, h1, e1, e⟩ := bnd e
  cases n with
  | zero => cases e
  | succ k =>
    obtain ⟨f, hm, rfl, e2⟩ := mk_inv e
    obtain ⟨A, hA, hmg⟩ := ok.cls c x hf
    obtain ⟨A', g, fd, ps, hA', M, hb, F⟩ := ok.mkC k c f rfl hm
    rw [hA] at hA'; cases hA'
    refine WE.of (pe_make M F ok.room (gl_of hg) hmg hb .nil pass0 pWA (okNm_of ho).1 (star_cons h0 _ _) (star_plain _ _ hst)) ?_
    exact hs ρ vh env σ H _ ws h1 R E e1 fun ρ1 H1 vs F1 R1 V1 => new_post hA R1 V1 e2 (p.from F1)
theorem snd_new0E (ok : XOk P G n cl X) {c : Nat} {x : Str} {np pos : Pos} (hf : G.cls[c]? = some x) (hg : glbB X.env.scope x = true) (ho : okNm x = true) : SndE X cl (fun _ h => P.make n c [] h) (.Call (.Name x np) [] [] pos) := by
  intro ρ vh env σ H Q w vh' R E e p
  cases n with
  | zero => cases e
  | succ k =>
    obtain ⟨f, hm, rfl, e2⟩ := mk_inv e
    obtain ⟨A, hA, hmg⟩ := ok.cls c x hf
    obtain ⟨A', g, fd, ps, hA', M, hb, F⟩ := ok.mkC k c f rfl hm
    rw [hA] at hA'; cases hA'
    exact WE.of (pe_make0 M F ok.room (gl_of hg) hmg hb .nil pass0 (okNm_of ho).1) (new_post hA R .nil e2 p)
theorem valsR_map {α : Type} {K : PySem.W.Frag} {ρ : List Addr} {H : Hp} {f : α → W} {g : α → V} (h : ∀ a, ValR K ρ H (f a) (g a)) : ∀ l : List α, ValsR K ρ H (l.map f) (l.map g)
  | [] => .nil
  | a :: l => .cons (h a) (valsR_map h l)
abbrev trgK (ws : List W) (h1 : VH) : R W := match ws with
      | [.int j] => if inI j ∧ j ≤ line then .ok (.tup (rangeW 0 j)) h1 else .bad
      | [.int i, .int j] => if inI i ∧ inI j ∧ (j - i).toNat ≤ line then .ok (.tup (rangeW i j)) h1 else .bad
      | _ => .bad
theorem inI_62 {i : Int} (h : inI i = true) : -(2 ^ 62) ≤ i ∧ i < 2 ^ 62 := by
  simp [inI] at h
  omega
theorem snd_trg1 (ok : XOk P G n cl X) {ma : Env → VH → R W} {x y : Str} {np yp pos ypos : Pos} {a : Expr} (hx : x = ("tuple" : Str)) (hg : glbB X.env.scope x = true) (hy : y = ("range" : Str)) (hgy : glbB X.env.scope y = true) (h0 : notStar a = true) (ha : SndE X cl ma a) :
    SndE X cl (fun env h => ((ma env h).bind fun x h1 => .ok [x] h1).bind fun ws h1 => trgK ws h1) (.Call (.Name x np) [.Call (.Name y yp) [a] [] ypos] [] pos) := by
  subst hx hy
  intro ρ vh env σ H Q w vh' R E e p
  obtain ⟨ws, h1, e', e2⟩ := bnd e; clear e
  obtain ⟨z, h2, e1, e3⟩ := bnd e'
  cases e3
  refine WE.of (pe_tupRg ok.calm (gl_of hg) (ok.blt _ (by decide +kernel)) (prg_1 (gl_of hgy) (ok.blt _ (by decide +kernel)) pWE (star_cons h0 _ _))) ?_
  refine ha ρ vh env σ H _ _ _ R E e1 fun ρ1 H1 v F1 R1 V1 => ?_
  unfold trgK at e2
  split at e2
  · split at e2
    · rename_i j heq hc
      cases e2; cases heq
      have b := inI_62 hc.1
      refine ⟨_, vr_int.mp V1, ⟨by omega, by omega, b.1, b.2, by have := hc.2; have : line = 2 ^ 24 := rfl; omega⟩, fun q hq => p _ _ _ (F1.trans (Fr.new hq)) (R1.new hq) (vr_tup.mpr ⟨q, _, rfl, SqT.of upd_same, valsR_map (fun k => vr_int.mpr rfl) _⟩)⟩
    · cases e2
  · rename_i heq; cases heq
  · cases e2
theorem snd_trg2 (ok : XOk P G n cl X) {ma mb : Env → VH → R W} {x y : Str} {np yp pos ypos : Pos} {a b : Expr} (hx : x = ("tuple" : Str)) (hg : glbB X.env.scope x = true) (hy : y = ("range" : Str)) (hgy : glbB X.env.scope y = true) (h0 : notStar a = true) (h0' : notStar b = true) (ha : SndE X cl ma a) (hb : SndE X cl mb b) :
    SndE X cl (fun env h => ((ma env h).bind fun x h1 => ((mb env h1).bind fun y h1 => .ok [y] h1).bind fun xs h2 => .ok (x :: xs) h2).bind fun ws h1 => trgK ws h1) (.Call (.Name x np) [.Call (.Name y yp) [a, b] [] ypos] [] pos) := by
  subst hx hy
  intro ρ vh env σ H Q w vh' R E e p
  obtain ⟨ws, h1, e', e2⟩ := bnd e; clear e
  obtain ⟨z, h2, e1, e3⟩ := bnd e'
  obtain ⟨zs, h3, e4, e5⟩ := bnd e3
  cases e5
  obtain ⟨z', h4, e6, e7⟩ := bnd e4
  cases e7
  refine WE.of (pe_tupRg ok.calm (gl_of hg) (ok.blt _ (by decide +kernel)) (prg_2 (gl_of hgy) (ok.blt _ (by decide +kernel)) pWE pWE (star_cons h0 _ _) (star_cons h0' _ _) (star_plain (es := [b]) _ _ (by rw [List.all_cons, h0']; rfl)))) ?_
  refine snd2 ha hb R E e1 e6 fun ρ2 H2 v u F2 R2 V1 V2 => ?_
  unfold trgK at e2
  split at e2
  · rename_i heq; cases heq
  · split at e2
    · rename_i heq hc
      cases e2; cases heq
      have b1 := inI_62 hc.1
      have b2 := inI_62 hc.2.1
      refine ⟨_, _, vr_int.mp V1, vr_int.mp V2, ⟨b1.1, b1.2, b2.1, b2.2, hc.2.2⟩, fun q hq => p _ _ _ (F2.trans (Fr.new hq)) (R2.new hq) (vr_tup.mpr ⟨q, _, rfl, SqT.of upd_same, valsR_map (fun k => vr_int.mpr rfl) _⟩)⟩
    · cases e2
  · cases e2

/-! ### a display of a dict -/
theorem pps_all {pos : Pos} : ∀ {ks : List Key} {ks' : List (Option Expr)} {es : List Expr}, keysB ks ks' = true → ks'.length = es.length → ∃ trs : List (TE × TE), PPs X pos ks' es trs ∧ trs = (ks.zip es).map (fun p => (tC (kV p.1), WE X p.2))
  | [], [], [], _, _ => ⟨[], pps_nil, rfl⟩
  | k :: ks, k' :: ks', e :: es, h, hl => by
    simp only [keysB, Bool.and_eq_true] at h
    obtain ⟨trs, ht, he⟩ := pps_all (ks := ks) (ks' := ks') (es := es) h.2 (by simpa using hl)
    have hk : ∃ k0, k' = some k0 ∧ PE X k0 (tC (kV k)) := by
      have hk := h.1
      unfold keyB at hk
      split at hk
      · cases (of_decide_eq_true hk); exact ⟨_, rfl, pe_int⟩
      · cases (of_decide_eq_true hk); exact ⟨_, rfl, pe_str⟩
      · cases hk
    obtain ⟨k0, rfl, pk⟩ := hk
    exact ⟨_, pps_cons pk pWE ht, by rw [he]; rfl⟩
  | [], _ :: _, _, h, _ => by simp [keysB] at h
  | _ :: _, [], _, h, _ => by simp [keysB] at h
  | [], [], _ :: _, _, h => by simp at h
  | _ :: _, _ :: _, [], _, h => by simp at h
theorem keys_len : ∀ {ks : List Key} {ks' : List (Option Expr)}, keysB ks ks' = true → ks'.length = ks.length ∧ ks'.all (·.isSome) = true
  | [], [], _ => ⟨rfl, rfl⟩
  | k :: ks, k' :: ks', h => by
    simp only [keysB, Bool.and_eq_true] at h
    obtain ⟨h1, h2⟩ := keys_len h.2
    refine ⟨by simp [h1], ?_⟩
    have hk := h.1
    unfold keyB at hk
    split at hk
    · simpa using h2
    · simpa using h2
    · cases hk
  | [], _ :: _, h => by simp [keysB] at h
  | _ :: _, [], h => by simp [keysB] at h
theorem kvr_fold {K : PySem.W.Frag} {ρ : List Addr} {H : Hp} : ∀ {ks : List Key} {ws : List W} {vs : List V} {l : List (Key × W)} {l' : List (Key × V)}, ValsR K ρ H ws vs → KvR K ρ H l l' →
    KvR K ρ H ((ks.zip ws).foldl (fun a p => dset a p.1 p.2) l) (((ks.zip vs).foldl (fun a p => putK a p.1 p.2) l'))
  | [], ws, vs, l, l', h, hl => by simpa using hl
  | k :: ks, [], _, l, l', h, hl => by rw [h.nil_inv]; simpa using hl
  | k :: ks, w :: ws, _, l, l', h, hl => by
    obtain ⟨x, xs, rfl, h1, h2⟩ := h.uncons
    rw [List.zip_cons_cons, List.zip_cons_cons, List.foldl_cons, List.foldl_cons]
    exact kvr_fold h2 (kvr_put hl h1)

def SndD (X : Cx) (cl : Nat → Option Addr) (m : Env → VH → R (List W)) (es : List Expr) : Prop := ∀ (ks : List Key), ks.length = es.length → ∀ ρ vh env σ H Q ws vh', Rel X.K cl ρ vh H → EnvR X.K X.N ρ H env σ → m env vh = .ok ws vh' →
  (∀ ρ' H' vs, Fr ρ H ρ' H' → Rel X.K cl ρ' vh' H' → ValsR X.K ρ' H' ws vs → Q ((ks.zip vs).map fun p => (kV p.1, p.2)) H') → tPairs ((ks.zip es).map fun p => (tC (kV p.1), WE X p.2)) σ H Q
theorem snd_nilD : SndD X cl (fun _ h => .ok [] h) [] := by
  intro ks hk ρ vh env σ H Q ws vh' R E e p
  cases e
  have : ks = [] := List.length_eq_zero_iff.mp hk
  subst this
  exact p ρ H [] Fr.rfl' R .nil
theorem snd_consD {me : Env → VH → R W} {ms : Env → VH → R (List W)} {e : Expr} {es : List Expr} (he : SndE X cl me e) (hes : SndD X cl ms es) :
    SndD X cl (fun env h => (me env h).bind fun x h1 => (ms env h1).bind fun xs h2 => .ok (x :: xs) h2) (e :: es) := by
  intro ks hk ρ vh env σ H Q ws vh' R E e' p
  obtain ⟨x, h1, e1, e2'⟩ := bnd e'; clear e'
  obtain ⟨xs, h2, e2, e'⟩ := bnd e2'; clear e2'
  cases e'
  cases ks with
  | nil => simp at hk
  | cons k ks =>
    rw [List.zip_cons_cons, List.map_cons]
    show tPairs ((tC (kV k), WE X e) :: _) σ H Q
    refine he ρ vh env σ H _ x h1 R E e1 fun ρ1 H1 v F1 R1 V1 => ?_
    refine hes ks (by simpa using hk) ρ1 h1 env σ H1 _ xs _ R1 (E.stay R F1) e2 fun ρ2 H2 vs F2 R2 V2 => ?_
    exact p ρ2 H2 (v :: vs) (F1.trans F2) R2 (.cons (V1.stay R1 F2) V2)
theorem snd_dctE {ms : Env → VH → R (List W)} {ks : List Key} {ks' : List (Option Expr)} {es : List Expr} {pos : Pos} (hk : keysB ks ks' = true) (hlen : es.length = ks.length) (h15 : ks.length ≤ 15) (hs : SndD X cl ms es) (h0 : es = [] → ∀ env vh, ms env vh = .ok [] vh) :
    SndE X cl (fun env h => (ms env h).bind fun ws h1 => if ks.length = ws.length ∧ ks.length ≤ 15 then new (.dct ((ks.zip ws).foldl (fun a p => dset a p.1 p.2) [])) h1 else .bad) (.Dict ks' es pos) := by
  intro ρ vh env σ H Q w vh' R E e p
  obtain ⟨ws, h1, e1, e'⟩ := bnd e; clear e
  split at e'
  · rename_i hl
    cases e'
    obtain ⟨k1, k2⟩ := keys_len hk
    cases es with
    | nil =>
      have hks : ks = [] := List.length_eq_zero_iff.mp hlen.symm
      subst hks
      have hks' : ks' = [] := List.length_eq_zero_iff.mp k1
      subst hks'
      rw [h0 rfl] at e1
      cases e1
      exact WE.of pe_dnewK (Post.alloc R p fun q hq => ⟨[], upd_same, rfl⟩)
    | cons e0 es =>
      obtain ⟨trs, ht, he⟩ := pps_all (X := X) (pos := pos) (es := e0 :: es) hk (by rw [k1]; exact hlen.symm)
      refine WE.of (pe_disp ht k2 (by rw [k1]; exact hlen.symm) (fun z => by rw [z] at k1; simp at k1; rw [← k1] at hlen; simp at hlen) (by rw [k1]; exact h15)) ?_
      intro q hq
      rw [he]
      have np := R.free hq
      refine hs ks hlen.symm ρ vh env σ _ _ ws h1 (R.new hq) (E.stay R (Fr.new hq)) e1 fun ρ2 H2 vs F2 R2 V2 => ?_
      obtain ⟨k3, k4⟩ := F2.keep q (.dK []) upd_same np
      have kp : Kp X.K ρ2 H2 ρ2 (upd H2 q (.dK (mergeK [] (ks.zip vs)))) := Kp.sideG (by rw [k3]; simp) (by rw [k3]; simp)
      refine ⟨k3, ks.zip vs, rfl, ?_, ?_⟩
      · rw [List.length_zip]; omega
      · have F0 : Fr ρ H ρ2 H2 := (Fr.new hq).trans F2
        have F : Fr ρ H (ρ2 ++ [q]) (upd H2 q (.dK (mergeK [] (ks.zip vs)))) := by
          have a := F0.adopt (D := q) hq
          exact a.side hq
        refine p _ _ _ F ((R2.sideG (by rw [k3]; simp) (by rw [k3]; simp) k4).adoptG k4 ⟨_, upd_same, ?_⟩) (vr_ref.mpr ⟨q, rfl, R2.fresh⟩)
        exact KvR.keep Kp.more (KvR.keep kp (kvr_fold (ks := ks) V2 (l := []) (l' := []) rfl))
  · cases e'

/-! ### xs[::-1] of a list -/
theorem snd_revE {ma : Env → VH → R W} {a : Expr} {k : Nat} {p1 p2 p3 pos : Pos} (ha : SndE X cl ma a) (hnt : ∀ env h h' ws, ma env h ≠ .ok (.tup ws) h') :
    SndE X cl (fun env h => (ma env h).bind fun x h1 => revW x h1) (.Subscript a (.Slice none none (some (.UnaryOp .USub (.Constant (.int 1) k p1) p2)) p3) pos) := by
  intro ρ vh env σ H Q w vh' R E e p
  obtain ⟨x, h1, e1, e'⟩ := bnd e; clear e
  unfold revW at e'
  split at e'
  · exact absurd e1 (hnt _ _ _ _)
  · split at e'
    · rename_i r ws hz
      cases e'
      refine WE.of (pe_revL pWE) (ha ρ vh env σ H _ _ h1 R E e1 fun ρ1 H1 v F1 R1 V1 => ?_)
      obtain ⟨q, xs, rfl, _, hq, hv⟩ := R1.lst hz V1
      exact ⟨q, xs, rfl, SqL.of hq, Post.lst R1 (p.from F1) hv.reverse⟩
    · cases e'
  · cases e'

/-! ### what is walked -/
structure ItR (K : PySem.W.Frag) (cl : Nat → Option Addr) (J : It) (its : Its) (ρ2 : List Addr) (H1 : Hp) : Prop where
  stop : ∀ ρ h H i, Fr ρ2 H1 ρ H → Rel K cl ρ h H → itAt h i its = some none → J.stop i H
  go : ∀ ρ h H i w, Fr ρ2 H1 ρ H → Rel K cl ρ h H → itAt h i its = some (some w) → J.go i H
  yld : ∀ ρ h H i w x H', Fr ρ2 H1 ρ H → Rel K cl ρ h H → itAt h i its = some (some w) → J.yld i H x H' → Fr ρ H ρ H' ∧ Rel K cl ρ h H' ∧ ValR K ρ H' w x
def SndI (X : Cx) (cl : Nat → Option Addr) (m : Env → VH → R Its) (tg e : Expr) : Prop := ∀ ρ vh env σ H Rr its vh', Rel X.K cl ρ vh H → EnvR X.K X.N ρ H env σ → m env vh = .ok its vh' →
  (∀ ρ' H' J, Fr ρ H ρ' H' → Rel X.K cl ρ' vh' H' → ItR X.K cl J its ρ' H' → Rr J H') → WI X tg e σ H Rr
theorem itr_tup {K : PySem.W.Frag} {a : Addr} {xs : List V} {ws : List W} {ρ : List Addr} {vh : VH} {H : Hp} (R : Rel K cl ρ vh H) (h1 : SqT K H a xs) (h2 : ValsR K ρ H ws xs) : ItR K cl (Itt K a) (.ws ws) ρ H where
  stop := fun ρ' h H' i F R' e => ⟨xs, SqT.stay R F h1, by
    have e' : ws[i]? = none := by simpa [itAt] using e
    have := List.getElem?_eq_none_iff.mp e'
    rw [h2.length]; omega⟩
  go := fun ρ' h H' i w F R' e => by
    have e' : ws[i]? = some w := by simpa [itAt] using e
    obtain ⟨x, hx, _⟩ := h2.get e'
    exact ⟨xs, x, SqT.stay R F h1, hx⟩
  yld := fun ρ' h H' i w x H2 F R' e y => by
    have e' : ws[i]? = some w := by simpa [itAt] using e
    obtain ⟨rfl, hy⟩ := y
    obtain ⟨z, hz, hr⟩ := h2.get e'
    have := hy xs (SqT.stay R F h1)
    rw [hz] at this; cases this
    exact ⟨Fr.rfl', R', hr.stay R F⟩
theorem itr_rol {K : PySem.W.Frag} {a : Addr} {xs : List V} {ws : List W} {ρ : List Addr} {vh : VH} {H : Hp} (R : Rel K cl ρ vh H) (h1 : RoL K H a xs) (h2 : ValsR K ρ H ws xs) : ItR K cl (Itl K a) (.ws ws) ρ H where
  stop := fun ρ' h H' i F R' e => ⟨xs, (RoL.stay R F h1).sql, by
    have e' : ws[i]? = none := by simpa [itAt] using e
    have := List.getElem?_eq_none_iff.mp e'
    rw [h2.length]; omega⟩
  go := fun ρ' h H' i w F R' e => by
    have e' : ws[i]? = some w := by simpa [itAt] using e
    obtain ⟨x, hx, _⟩ := h2.get e'
    exact ⟨xs, x, (RoL.stay R F h1).sql, hx⟩
  yld := fun ρ' h H' i w x H2 F R' e y => by
    have e' : ws[i]? = some w := by simpa [itAt] using e
    obtain ⟨rfl, hy⟩ := y
    obtain ⟨z, hz, hr⟩ := h2.get e'
    have := hy xs (RoL.stay R F h1).sql
    rw [hz] at this; cases this
    exact ⟨Fr.rfl', R', hr.stay R F⟩
theorem itr_live {K : PySem.W.Frag} {a : Addr} {r : Nat} {ρ : List Addr} {H : Hp} (hr : ρ[r]? = some a) : ItR K cl (Itl K a) (.live r) ρ H where
  stop := fun ρ' h H' i F R' e => by
    simp only [itAt] at e
    split at e
    · rename_i ws hw
      cases e' : ws[i]? with
      | some _ => rw [e'] at e; cases e
      | none =>
        obtain ⟨xs, h1, h2⟩ := R'.at (F.get hr) (listAt_some hw)
        have := List.getElem?_eq_none_iff.mp e'
        exact ⟨xs, SqL.of h1, by rw [h2.length]; omega⟩
    · cases e
  go := fun ρ' h H' i w F R' e => by
    simp only [itAt] at e
    split at e
    · rename_i ws hw
      obtain ⟨xs, h1, h2⟩ := R'.at (F.get hr) (listAt_some hw)
      obtain ⟨x, hx, _⟩ := h2.get (Option.some.inj e)
      exact ⟨xs, x, SqL.of h1, hx⟩
    · cases e
  yld := fun ρ' h H' i w x H2 F R' e y => by
    simp only [itAt] at e
    split at e
    · rename_i ws hw
      obtain ⟨xs, h1, h2⟩ := R'.at (F.get hr) (listAt_some hw)
      obtain ⟨z, hz, hzr⟩ := h2.get (Option.some.inj e)
      obtain ⟨rfl, hy⟩ := y
      have := hy xs (SqL.of h1)
      rw [hz] at this; cases this
      exact ⟨Fr.rfl', R', hzr⟩
    · cases e
theorem itr_fn {K : PySem.W.Frag} {m : Nat} {g : Nat → Int} {J : It} {ρ : List Addr} {H : Hp} (hs : ∀ i H, m ≤ i → J.stop i H) (hg : ∀ i H, i < m → J.go i H) (hy : ∀ i H x H', J.yld i H x H' → H' = H ∧ x = .int (g i)) :
    ItR K cl J (.ws ((List.range m).map fun k => .int (g k))) ρ H where
  stop := fun ρ' h H' i F R' e => hs i H' (by
    have e' : ((List.range m).map fun k => W.int (g k))[i]? = none := by simpa [itAt] using e
    have := List.getElem?_eq_none_iff.mp e'
    simpa using this)
  go := fun ρ' h H' i w F R' e => hg i H' (by
    have e' : ((List.range m).map fun k => W.int (g k))[i]? = some w := by simpa [itAt] using e
    have := (List.getElem?_eq_some_iff.mp e').1
    simpa using this)
  yld := fun ρ' h H' i w x H2 F R' e y => by
    have e' : ((List.range m).map fun k => W.int (g k))[i]? = some w := by simpa [itAt] using e
    obtain ⟨rfl, rfl⟩ := hy _ _ _ _ y
    have hi : i < m := by
      have := (List.getElem?_eq_some_iff.mp e').1
      simpa using this
    rw [List.getElem?_map, List.getElem?_range hi] at e'
    cases e'
    exact ⟨Fr.rfl', R', vr_int.mpr rfl⟩
theorem itr_str {K : PySem.W.Frag} {x : Str} {ρ : List Addr} {H : Hp} : ItR K cl (L2.Its x) (.ws (strW x)) ρ H where
  stop := fun ρ' h H' i F R' e => by
    have e' : (strW x)[i]? = none := by simpa [itAt] using e
    have := List.getElem?_eq_none_iff.mp e'
    simp only [strW, List.length_map, Array.length_toList] at this
    exact this
  go := fun ρ' h H' i w F R' e => by
    have e' : (strW x)[i]? = some w := by simpa [itAt] using e
    have := (List.getElem?_eq_some_iff.mp e').1
    simp only [strW, List.length_map, Array.length_toList] at this
    exact this
  yld := fun ρ' h H' i w y H2 F R' e q => by
    have e' : (strW x)[i]? = some w := by simpa [itAt] using e
    obtain ⟨rfl, c, hc, rfl⟩ := q
    unfold strW at e'
    rw [List.getElem?_map, Array.getElem?_toList, hc] at e'
    cases e'
    exact ⟨Fr.rfl', R', vr_str.mpr rfl⟩
theorem snd_plainI {ma : Env → VH → R W} {tg e : Expr} (ha : SndE X cl ma e) : SndI X cl (fun env h => ((ma env h).bind fun x h1 => .ok [x] h1).bind fun ws h1 => itsOf .plain ws h1) tg e := by
  intro ρ vh env σ H Rr its vh' R E e0 p
  obtain ⟨ws, h1, e1, e2⟩ := bnd e0; clear e0
  obtain ⟨x, h2, e3, e4⟩ := bnd e1; clear e1
  cases e4
  cases x <;> simp only [itsOf] at e2 <;> first | cases e2 | skip
  · refine WI.of (pi_str pWE) (ha ρ vh env σ H _ _ _ R E e3 fun ρ1 H1 v F1 R1 V1 => ?_)
    exact ⟨_, vr_str.mp V1, p _ _ _ F1 R1 itr_str⟩
  · refine WI.of (pi_tup pWE) (ha ρ vh env σ H _ _ _ R E e3 fun ρ1 H1 v F1 R1 V1 => ?_)
    obtain ⟨a, xs, rfl, q1, q2⟩ := vr_tup.mp V1
    exact ⟨a, rfl, ⟨xs, q1⟩, p _ _ _ F1 R1 (itr_tup R1 q1 q2)⟩
  · refine WI.of (pi_list pWE) (ha ρ vh env σ H _ _ _ R E e3 fun ρ1 H1 v F1 R1 V1 => ?_)
    obtain ⟨a, xs, rfl, q1, q2⟩ := vr_rol.mp V1
    exact ⟨a, rfl, ⟨xs, q1.sql⟩, p _ _ _ F1 R1 (itr_rol R1 q1 q2)⟩
  · split at e2 <;> cases e2
    rename_i ws hw
    refine WI.of (pi_list pWE) (ha ρ vh env σ H _ _ _ R E e3 fun ρ1 H1 v F1 R1 V1 => ?_)
    obtain ⟨a, xs, rfl, hr, q1, q2⟩ := R1.lst (listAt_some hw) V1
    exact ⟨a, rfl, ⟨xs, SqL.of q1⟩, p _ _ _ F1 R1 (itr_live hr)⟩
theorem inI_of {i : Int} (h : inI i = true) : -(2 ^ 62) ≤ i ∧ i < 2 ^ 62 := by
  unfold inI at h
  have := of_decide_eq_true h
  omega
theorem snd_rangeI (ok : XOk P G n cl X) {ms : Env → VH → R (List W)} {tg : Expr} {x : Str} {np pos : Pos} {es : List Expr} (hx : x = ("range" : Str)) (hg : glbB X.env.scope x = true) (hst : es.all notStar = true) (hlen : ∀ env h ws h', ms env h = .ok ws h' → ws.length = es.length) (hs : SndA X cl ms es) :
    SndI X cl (fun env h => (ms env h).bind fun ws h1 => itsOf .range ws h1) tg (.Call (.Name x np) es [] pos) := by
  subst hx
  intro ρ vh env σ H Rr its vh' R E e0 p
  obtain ⟨ws, h1, e1, e2⟩ := bnd e0; clear e0
  have hm : X.mg "range" = none := ok.blt _ (by decide +kernel)
  have hl := hlen _ _ _ _ e1
  unfold itsOf at e2
  split at e2
  · rename_i he; cases he
  · rename_i he; cases he
  · rename_i he; cases he
  · rename_i he; cases he
  · -- one
    split at e2
    · rename_i j _ hj
      cases e2
      match es, hl, hst with
      | [a], _, hst =>
        simp only [List.all_cons, List.all_nil, Bool.and_true] at hst
        refine WI.of (pi_range1 (gl_of hg) hm pWA (star_cons hst _ _)) (hs ρ vh env σ H _ _ _ R E e1 fun ρ1 H1 vs F1 R1 V1 => ?_)
        obtain ⟨y, ys, rfl, q1, q2⟩ := V1.uncons
        rw [q2.nil_inv, vr_int.mp q1]
        refine ⟨j, rfl, (inI_of hj).1, (inI_of hj).2, p _ _ _ F1 R1 ?_⟩
        exact itr_fn (m := (j - 0).toNat) (g := fun k => 0 + (k : Int)) (fun i H h => by show j.toNat ≤ i; omega) (fun i H h => by show i < j.toNat; omega) (fun i H x H' y => y)
    · cases e2
  · split at e2
    · rename_i i j _ hj
      cases e2
      match es, hl, hst with
      | [a, b], _, hst =>
        simp only [List.all_cons, List.all_nil, Bool.and_true, Bool.and_eq_true] at hst
        refine WI.of (pi_range2 (gl_of hg) hm pWA (by rw [star_cons hst.1, star_cons hst.2]; rfl) (star_cons hst.2 _ _)) (hs ρ vh env σ H _ _ _ R E e1 fun ρ1 H1 vs F1 R1 V1 => ?_)
        obtain ⟨y, ys, rfl, q1, q2⟩ := V1.uncons
        obtain ⟨z, zs, rfl, q3, q4⟩ := q2.uncons
        rw [q4.nil_inv, vr_int.mp q1, vr_int.mp q3]
        have b1 := inI_of hj.1
        have b2 := inI_of hj.2
        refine ⟨i, j, rfl, ⟨b1.1, b1.2, b2.1, b2.2⟩, p _ _ _ F1 R1 ?_⟩
        exact itr_fn (m := (j - i).toNat) (g := fun k => i + (k : Int)) (fun i H h => h) (fun i H h => h) (fun i H x H' y => y)
    · cases e2
  · split at e2
    · rename_i i j s _ hj
      cases e2
      obtain ⟨c1, c2, c3⟩ := hj
      match es, hl, hst with
      | [a, b, c], _, hst =>
        simp only [List.all_cons, List.all_nil, Bool.and_true, Bool.and_eq_true] at hst
        refine WI.of (pi_range3 (gl_of hg) hm pWA (star_cons hst.1 _ _) (star_plain _ _ (by simp [hst.2.1, hst.2.2]))) (hs ρ vh env σ H _ _ _ R E e1 fun ρ1 H1 vs F1 R1 V1 => ?_)
        obtain ⟨y, ys, rfl, q1, q2⟩ := V1.uncons
        obtain ⟨z, zs, rfl, q3, q4⟩ := q2.uncons
        obtain ⟨t, ts, rfl, q5, q6⟩ := q4.uncons
        rw [q6.nil_inv, vr_int.mp q1, vr_int.mp q3, vr_int.mp q5]
        refine ⟨i, j, s, (Builtin.Range.rangeSize i j s).toNat, rfl, ⟨c1, c2, c3, PyProof.Rows.rangeSize_toNat i j s⟩, p _ _ _ F1 R1 ?_⟩
        exact itr_fn (m := (Builtin.Range.rangeSize i j s).toNat) (g := fun k => i + (k : Int) * s) (fun i H h => h) (fun i H h => h) (fun i H x H' y => y)
    · cases e2
  · rename_i he; cases he
  · cases e2
end
end Nw

set_option Elab.async false
set_option linter.all false
set_option maxRecDepth 100000
set_option maxHeartbeats 1000000
/-! Nw, part G: targets, comprehensions, all expressions. -/
namespace Nw
open PySem PySem.Spec PyProof.Rows L2

theorem asg_cons {e : Expr} (h : notStar e = true) (es : List Expr) (env : PySem.Env) : assignEach (e :: es) env = (false, assign e env) :: assignEach es env := by
  cases e <;> first | rfl | cases h
theorem asg_plain : ∀ {es : List Expr} (env : PySem.Env), es.all notStar = true → (assignEach es env).length = es.length ∧ (assignEach es env).findIdx? (·.1) = none
  | [], _, _ => ⟨rfl, rfl⟩
  | e :: es, env, h => by
    rw [List.all_cons, Bool.and_eq_true] at h
    obtain ⟨h1, h2⟩ := asg_plain env h.2
    rw [asg_cons h.1]
    refine ⟨by rw [List.length_cons, List.length_cons, h1], ?_⟩
    rw [List.findIdx?_cons, h2]
    rfl
theorem wipe_get {σ : L2.St} : ∀ {vs : List Nat} {i : Nat}, (wipe σ vs)[i]? = if i ∈ vs ∧ i < σ.length then some none else σ[i]?
  | [], i => by simp [wipe]
  | v :: vs, i => by
    show ((wipe σ vs).set v none)[i]? = _
    by_cases hv : v = i
    · subst hv
      by_cases hl : v < σ.length
      · rw [List.getElem?_set_self (by rw [wipe_length]; exact hl), if_pos ⟨by simp, hl⟩]
      · rw [if_neg (fun z => hl z.2), List.getElem?_eq_none (by rw [List.length_set, wipe_length]; omega), List.getElem?_eq_none (by omega)]
    · rw [List.getElem?_set_ne hv, wipe_get]
      simp [Ne.symm hv]
theorem wipe_wipe {σ : L2.St} {vs : List Nat} : wipe (wipe σ vs) vs = wipe σ vs := by
  apply List.ext_getElem?
  intro i
  rw [wipe_get, wipe_length]
  split
  · rename_i h
    rw [wipe_get, if_pos h]
  · rfl
theorem wipe_set {σ : L2.St} {vs : List Nat} {i : Nat} {x : Option V} (h : i ∈ vs) : wipe (σ.set i x) vs = wipe σ vs := by
  apply List.ext_getElem?
  intro j
  rw [wipe_get, wipe_get, List.length_set]
  by_cases hj : j = i
  · subst hj
    by_cases hl : j < σ.length
    · rw [if_pos ⟨h, hl⟩, if_pos ⟨h, hl⟩]
    · rw [if_neg (fun z => hl z.2), if_neg (fun z => hl z.2), List.getElem?_eq_none (by rw [List.length_set]; omega), List.getElem?_eq_none (by omega)]
  · rw [List.getElem?_set_ne (Ne.symm hj)]

section
variable {P : Prog} {G : GN} {n : Nat} {cl : Nat → Option Addr} {X : Cx}
/-! ### targets that are names -/
def SndG (X : Cx) (cl : Nat → Option Addr) (t : TN) (tg : Expr) : Prop := ∀ ρ vh env σ H Q w v env', Rel X.K cl ρ vh H → EnvR X.K X.N ρ H env σ → bindT t w env = some env' → ValR X.K ρ H w v →
  (∀ σ', EnvR X.K X.N ρ H env' σ' → (∀ own, tnIn own t = true → wipe σ' own = wipe σ own) → Q σ' H) → WG X tg v σ H Q
def SndGs (X : Cx) (cl : Nat → Option Addr) (ts : List TN) (tgs : List Expr) : Prop := ∀ ρ vh env σ H Q ws vs env', Rel X.K cl ρ vh H → EnvR X.K X.N ρ H env σ → bindTs ts ws env = some env' → ValsR X.K ρ H ws vs →
  (∀ σ', EnvR X.K X.N ρ H env' σ' → (∀ own, tnIns own ts = true → wipe σ' own = wipe σ own) → Q σ' H) → WGs X tgs vs σ H Q
abbrev LocOk (X : Cx) (loc : Str → Bool) : Prop := ∀ x, loc x = true → Loc X.env.scope x ∧ (X.fn x = true ∨ X.env.scope.names.lookup x = some .local)
theorem tns_star {N : List Str} {loc : Str → Bool} : ∀ {ts : List TN} {es : List Expr}, chkTNs N loc ts es = true → es.all notStar = true ∧ es.length = ts.length
  | [], [], _ => ⟨rfl, rfl⟩
  | t :: ts, e :: es, h => by
    simp only [chkTNs, Bool.and_eq_true] at h
    obtain ⟨h1, h2⟩ := tns_star h.2
    exact ⟨by rw [List.all_cons, h.1.1, h1]; rfl, by simp [h2]⟩
  | [], _ :: _, h => by simp [chkTNs] at h
  | _ :: _, [], h => by simp [chkTNs] at h
theorem binds_len : ∀ {ts : List TN} {ws : List W} {env env' : Env}, bindTs ts ws env = some env' → ws.length = ts.length
  | [], [], _, _, _ => rfl
  | t :: ts, w :: ws, _, _, h => by
    simp only [bindTs] at h
    split at h
    · simp [binds_len h]
    · cases h
  | [], _ :: _, _, _, h => by simp [bindTs] at h
  | _ :: _, [], _, _, h => by simp [bindTs] at h
mutual
theorem sndTN (ok : XOk P G n cl X) {loc : Str → Bool} (hl : LocOk X loc) : ∀ {t : TN} {e : Expr}, chkTN X.N loc t e = true → SndG X cl t e
  | .nm i, .Name x _, h => by
    simp only [chkTN, Bool.and_eq_true, decide_eq_true_eq] at h
    obtain ⟨h1, h2⟩ := hl x h.2
    intro ρ vh env σ H Q w v env' R E e V q
    cases e
    refine WG.of (pg_name ok.nd h.1 h1 h2) (q _ (E.set (List.getElem?_eq_some_iff.mp h.1).1 V) fun own ho => ?_)
    exact wipe_set (by simpa [tnIn] using ho)
  | .tp ts, .Tuple es _ _, h => by
    simp only [chkTN] at h
    have ih := sndTNs ok hl h
    obtain ⟨s1, s2⟩ := tns_star h
    obtain ⟨a1, a2⟩ := asg_plain X.env s1
    intro ρ vh env σ H Q w v env' R E e V q
    cases w <;> simp only [bindT] at e <;> first | cases e | skip
    rename_i ws
    obtain ⟨p, xs, rfl, k1, k2⟩ := vr_tup.mp V
    refine WG.of (pg_tup ok.calm pWGs a1 a2) ⟨p, xs, rfl, k1, by rw [k2.length, binds_len e, s2], ih ρ vh env σ H Q ws xs env' R E e k2 fun σ' E' hw => q σ' E' fun own ho => hw own (by simpa [tnIn] using ho)⟩
  | .nm _, .BoolOp .., h | .nm _, .NamedExpr .., h | .nm _, .BinOp .., h | .nm _, .UnaryOp .., h | .nm _, .Lambda .., h | .nm _, .IfExp .., h | .nm _, .Dict .., h | .nm _, .Set .., h | .nm _, .ListComp .., h | .nm _, .SetComp .., h | .nm _, .DictComp .., h
  | .nm _, .GeneratorExp .., h | .nm _, .Await .., h | .nm _, .Yield .., h | .nm _, .YieldFrom .., h | .nm _, .Compare .., h | .nm _, .Call .., h | .nm _, .FormattedValue .., h | .nm _, .JoinedStr .., h | .nm _, .Constant .., h | .nm _, .Attribute .., h | .nm _, .Subscript .., h
  | .nm _, .Starred .., h | .nm _, .List .., h | .nm _, .Tuple .., h | .nm _, .Slice .., h => by simp [chkTN] at h
  | .tp _, .BoolOp .., h | .tp _, .NamedExpr .., h | .tp _, .BinOp .., h | .tp _, .UnaryOp .., h | .tp _, .Lambda .., h | .tp _, .IfExp .., h | .tp _, .Dict .., h | .tp _, .Set .., h | .tp _, .ListComp .., h | .tp _, .SetComp .., h | .tp _, .DictComp .., h
  | .tp _, .GeneratorExp .., h | .tp _, .Await .., h | .tp _, .Yield .., h | .tp _, .YieldFrom .., h | .tp _, .Compare .., h | .tp _, .Call .., h | .tp _, .FormattedValue .., h | .tp _, .JoinedStr .., h | .tp _, .Constant .., h | .tp _, .Attribute .., h | .tp _, .Subscript .., h
  | .tp _, .Starred .., h | .tp _, .List .., h | .tp _, .Name .., h | .tp _, .Slice .., h => by simp [chkTN] at h
theorem sndTNs (ok : XOk P G n cl X) {loc : Str → Bool} (hl : LocOk X loc) : ∀ {ts : List TN} {es : List Expr}, chkTNs X.N loc ts es = true → SndGs X cl ts es
  | [], [], _ => by
    intro ρ vh env σ H Q ws vs env' R E e V q
    cases ws <;> simp only [bindTs] at e <;> first | cases e | skip
    rw [V.nil_inv]
    exact WGs.of pgs_nil ⟨rfl, q _ E fun _ _ => rfl⟩
  | t :: ts, e0 :: es, h => by
    simp only [chkTNs, Bool.and_eq_true] at h
    have i1 := sndTN ok hl h.1.2
    have i2 := sndTNs ok hl h.2
    intro ρ vh env σ H Q ws vs env' R E e V q
    cases ws with
    | nil => simp [bindTs] at e
    | cons w ws =>
      simp only [bindTs] at e
      split at e
      · rename_i env1 e1
        obtain ⟨x, xs, rfl, v1, v2⟩ := V.uncons
        refine WGs.of (pgs_cons pWG pWGs (by rw [asg_cons h.1.1]; rfl)) ⟨x, xs, rfl, i1 ρ vh env σ H _ w x env1 R E e1 v1 fun σ1 E1 hw1 => i2 ρ vh env1 σ1 H _ ws xs env' R E1 e v2 fun σ2 E2 hw2 => q σ2 E2 fun own ho => ?_⟩
        simp only [tnIns, Bool.and_eq_true] at ho
        rw [hw2 own ho.2, hw1 own ho.1]
      · cases e
  | [], _ :: _, h => by simp [chkTNs] at h
  | _ :: _, [], h => by simp [chkTNs] at h
end

/-! ### comprehensions -/
/-- for every context of the block -/
abbrev Blk (X : Cx) (scope : Scope) (F : Cx → Prop) : Prop := ∀ (s : Shared) (H : Hp) (C : Addr) (clo : List (Str × Addr)) (fp : List Addr), F (X.blk s H scope (compEnvC scope clo C X.env) fp)
abbrev bTE (X : Cx) (scope : Scope) (e : Expr) : TE := fun σ H Q => Blk X scope fun Y => WE Y e σ H Q
abbrev bTG (X : Cx) (scope : Scope) (e : Expr) : TG := fun v σ H Q => Blk X scope fun Y => WG Y e v σ H Q
def SndTs (X : Cx) (cl : Nat → Option Addr) (scope : Scope) (m : Env → VH → R Bool) (ifs : List Expr) : Prop := ∃ tt : TT, (Blk X scope fun Y => PTs Y ifs tt) ∧
  ∀ ρ vh env σ H Q k vh', Rel X.K cl ρ vh H → EnvR X.K X.N ρ H env σ → m env vh = .ok k vh' → PostT X.K cl ρ H vh' k Q → tt σ H Q
theorem snd_ts0 {scope : Scope} : SndTs X cl scope (fun _ h => .ok true h) [] := ⟨tYes, fun _ _ _ _ _ => pts_nil, fun ρ vh env σ H Q k vh' R E e p => by cases e; exact p _ _ Fr.rfl' R⟩
theorem snd_ts1 {scope : Scope} {m : Env → VH → R Bool} {c : Expr} (h : Blk X scope fun Y => SndT Y cl m c) : SndTs X cl scope m [c] :=
  ⟨fun σ H Q => Blk X scope fun Y => WT Y c σ H Q, fun s H C clo fp => pts_one ⟨fun pins s' σ H' Q I q => q s H C clo fp pins s' I⟩, fun ρ vh env σ H Q k vh' R E e p s H0 C clo fp => h s H0 C clo fp ρ vh env σ H Q k vh' R E e p⟩
abbrev lcF (t : TN) (own : List Nat) (mt : Env → VH → R Bool) (me : Env → VH → R W) (env : Env) : W → VH → R (Option W) := fun w h => match bindT t w (wipeE env own) with
  | none => .bad
  | some e => (mt e h).bind fun b h => if b then (me e h).bind fun x h => .ok (some x) h else .ok none h
theorem lc_read {scope : Scope} {own : List Nat} {t : TN} {mi : Env → VH → R Its} {mt : Env → VH → R Bool} {me : Env → VH → R W} {tg iter elt : Expr} {ifs : List Expr}
    (hi : SndI X cl mi tg iter) (hg : Blk X scope fun Y => SndG Y cl t tg) (hin : tnIn own t = true) {tt : TT}
    (qt : ∀ ρ vh env σ H Q k vh', Rel X.K cl ρ vh H → EnvR X.K X.N ρ H env σ → mt env vh = .ok k vh' → PostT X.K cl ρ H vh' k Q → tt σ H Q) (he : Blk X scope fun Y => SndE Y cl me elt)
    {ρ : List Addr} {vh vh' : VH} {env : Env} {σ : L2.St} {H : Hp} {Q : VK} {w : W} (R : Rel X.K cl ρ vh H) (E : EnvR X.K X.N ρ H env σ)
    (e : ((mi env vh).bind fun its h2 => (lcRun its (lcF t own mt me env) (itLen h2 its + 1) 0 [] h2).bind fun acc h3 => newL acc h3) = .ok w vh') (p : Post X.K cl ρ H vh' w Q) :
    tLc (WI X tg iter) (bTG X scope tg) tt (bTE X scope elt) own σ H Q := by
  obtain ⟨its, h2, e1, e'⟩ := bnd e; clear e
  obtain ⟨accF, hF, e2, e3⟩ := bnd e'; clear e'
  unfold newL at e3
  split at e3
  · rename_i hlen
    cases e3
    refine hi ρ vh env σ H _ its h2 R E e1 fun ρ1 H1 J F1 R1 I1 D hD => ?_
    refine ⟨fun i m H' => ∃ ρ2 hh acc xs, Fr ρ1 H1 ρ2 H' ∧ Rel X.K cl ρ2 hh H' ∧ D ∉ ρ2 ∧ H' D = some (.lst xs) ∧ ValsR X.K ρ2 H' acc xs ∧ lcRun its (lcF t own mt me env) m i acc hh = .ok accF hF,
      ⟨_, ρ1, h2, [], [], Fr.new hD, R1.new hD, R1.free hD, upd_same, .nil, e2⟩, ?_⟩
    rintro i m H' ⟨ρ2, hh, acc, xs, F2, R2, nD, hDx, hv, run⟩
    cases m with
    | zero => cases run
    | succ m =>
      simp only [lcRun] at run
      split at run
      · cases run
      · rename_i hit
        cases run
        refine .inl ⟨I1.stop ρ2 _ H' i F2 R2 hit, ?_⟩
        exact p (ρ2 ++ [D]) H' _ (F1.trans (F2.adopt hD)) (R2.adoptG nD ⟨xs, hDx, ValsR.keep Kp.more hv⟩) (vr_ref.mpr ⟨D, rfl, R2.fresh⟩)
      · rename_i w' hit
        refine .inr ⟨I1.go ρ2 _ H' i w' F2 R2 hit, _, fun _ h => h, fun x H2 y => ?_⟩
        obtain ⟨F3, R3, V3⟩ := I1.yld ρ2 _ H' i w' x H2 F2 R2 hit y
        obtain ⟨r, h3, e3, run⟩ := bnd run
        simp only [lcF] at e3
        split at e3
        · cases e3
        · rename_i env' hb
          obtain ⟨b, h4, e4, e5⟩ := bnd e3; clear e3
          intro s0 H0 C clo fp
          have EW : EnvR X.K X.N ρ2 H2 (wipeE env own) (wipe σ own) := (((E.stay R F1).stay R1 (F2.trans F3))).wipe own
          refine hg s0 H0 C clo fp ρ2 hh (wipeE env own) (wipe σ own) H2 _ w' x env' R3 EW hb V3 fun σ' E' hw => ⟨by rw [hw own hin, wipe_wipe], ?_⟩
          obtain ⟨d1, n1⟩ := F3.keep D _ hDx nD
          refine qt ρ2 hh env' σ' H2 _ b h4 R3 E' e4 fun ρ3 H3 F4 R4 => ?_
          obtain ⟨d2, n2⟩ := F4.keep D _ d1 n1
          have hv3 := (hv.stay R2 F3).stay R3 F4
          cases b with
          | false =>
            simp only [Bool.false_eq_true, if_false] at e5 ⊢
            cases e5
            exact ⟨m, Nat.lt_succ_self m, ρ3, _, acc, xs, (F2.trans F3).trans F4, R4, n2, d2, hv3, run⟩
          | true =>
            simp only [if_true] at e5 ⊢
            obtain ⟨z, h5, e6, e7⟩ := bnd e5; clear e5
            cases e7
            intro s1 H1' C1 clo1 fp1
            refine he s1 H1' C1 clo1 fp1 ρ3 h4 env' σ' H3 _ z _ R4 (E'.stay R3 F4) e6 fun ρ4 H4 y F5 R5 V5 => ?_
            obtain ⟨d3, n3⟩ := F5.keep D _ d2 n2
            have hv4 := hv3.stay R4 F5
            have run : (if acc.length < line then lcRun its (lcF t own mt me env) m (i + 1) (acc ++ [z]) h3 else .bad) = .ok accF hF := run
            split at run
            · rename_i hz
              refine ⟨xs, d3, by rw [hv4.length, ← line_eq]; exact hz, m, Nat.lt_succ_self m, ρ4, _, acc ++ [z], xs ++ [y], (((F2.trans F3).trans F4).trans F5).side hD, R5.sideG (by rw [d3]; simp) (by rw [d3]; simp) n3, n3, upd_same, ?_, run⟩
              exact ValsR.keep (Kp.sideG (by rw [d3]; simp) (by rw [d3]; simp)) (hv4.append (.cons V5 .nil))
            · cases run
  · cases e3
theorem pbTE {scope : Scope} {e : Expr} : Blk X scope fun Y => PE Y e (bTE X scope e) := fun s H C clo fp => ⟨fun pins s' σ H' Q I q => q s H C clo fp pins s' I⟩
theorem pbTG {scope : Scope} {e : Expr} : Blk X scope fun Y => PG Y e (bTG X scope e) := fun s H C clo fp => ⟨fun pins s' σ H' v u Q I r q => q s H C clo fp pins s' u I r⟩
theorem snd_lcE (ok : XOk P G n cl X) {scope : Scope} {ownP : List (Str × Nat)} {own : List Nat} {t : TN} {mi : Env → VH → R Its} {mt : Env → VH → R Bool} {me : Env → VH → R W} {tg iter elt : Expr} {ifs : List Expr} {pos : Pos}
    (hb : BlkOk X.N X.env.scope scope ownP) (hown : ownP.map (·.2) = own) (hset : notSet iter = true) (hi : SndI X cl mi tg iter) (hg : Blk X scope fun Y => SndG Y cl t tg) (hin : tnIn own t = true) (ht : SndTs X cl scope mt ifs) (he : Blk X scope fun Y => SndE Y cl me elt) :
    SndE X cl (fun env vh => (mi env vh).bind fun its h2 => (lcRun its (lcF t own mt me env) (itLen h2 its + 1) 0 [] h2).bind fun acc h3 => newL acc h3) (.ListComp elt [⟨tg, iter, ifs, 0⟩] scope pos) := by
  intro ρ vh env σ H Q w vh' R E e p
  obtain ⟨tt, pt, qt⟩ := ht
  refine WE.of (pe_lc ok.calm ok.nd pWI hb pbTG pt pbTE (fun x => notSet_of hset _ _)) ?_
  rw [hown]
  exact lc_read (ifs := ifs) hi hg hin qt he R E e p
end
end Nw

set_option Elab.async false
set_option linter.all false
set_option maxRecDepth 100000
set_option maxHeartbeats 4000000
/-! Nw, part H: all expressions. -/
namespace Nw
open PySem PySem.Spec PyProof.Rows L2
section
variable {P : Prog} {G : GN} {n : Nat} {cl : Nat → Option Addr} {X : Cx}
theorem SndE.congr {m m' : Env → VH → R W} {e : Expr} (h : ∀ env vh, m env vh = m' env vh) (q : SndE X cl m e) : SndE X cl m' e := fun ρ vh env σ H Q w vh' R E e1 p => q ρ vh env σ H Q w vh' R E ((h _ _).trans e1) p
theorem SndT.congr {m m' : Env → VH → R Bool} {e : Expr} (h : ∀ env vh, m env vh = m' env vh) (q : SndT X cl m e) : SndT X cl m' e := fun ρ vh env σ H Q w vh' R E e1 p => q ρ vh env σ H Q w vh' R E ((h _ _).trans e1) p
/-- all of a list -/
def AllS (X : Cx) (cl : Nat → Option Addr) (C : Cfg) : List E → List Expr → Prop
  | [], [] => True
  | a :: as, e :: es => notStar e = true ∧ SndE X cl (evE C a) e ∧ SndT X cl (evT C a) e ∧ AllS X cl C as es
  | _, _ => False
theorem AllS.star {C : Cfg} : ∀ {as : List E} {es : List Expr}, AllS X cl C as es → es.all notStar = true ∧ es.length = as.length
  | [], [], _ => ⟨rfl, rfl⟩
  | a :: as, e :: es, h => by
    obtain ⟨h1, h2⟩ := AllS.star h.2.2.2
    exact ⟨by rw [List.all_cons, h.1, h1]; rfl, by simp [h2]⟩
  | [], _ :: _, h => h.elim
  | _ :: _, [], h => h.elim
theorem AllS.a {C : Cfg} : ∀ {as : List E} {es : List Expr}, AllS X cl C as es → SndA X cl (evEs C as) es ∧ SndD X cl (evEs C as) es
  | [], [], _ => ⟨snd_nilA, snd_nilD⟩
  | a :: as, e :: es, h => by
    obtain ⟨h1, h2⟩ := AllS.a h.2.2.2
    exact ⟨snd_consA h.1 h.2.1 h1, snd_consD h.2.1 h2⟩
  | [], _ :: _, h => h.elim
  | _ :: _, [], h => h.elim
theorem evEs_len {C : Cfg} : ∀ {as : List E} {env : Env} {h h' : VH} {ws : List W}, evEs C as env h = .ok ws h' → ws.length = as.length
  | [], env, h, h', ws, e => by cases e; rfl
  | a :: as, env, h, h', ws, e => by
    obtain ⟨x, h1, e1, e2⟩ := bnd (show (evE C a env h).bind (fun x h1 => (evEs C as env h1).bind fun xs h2 => .ok (x :: xs) h2) = .ok ws h' from e)
    obtain ⟨xs, h2, e3, e4⟩ := bnd e2
    cases e4
    simp [evEs_len e3]
def SndB (X : Cx) (cl : Nat → Option Addr) (m : Env → VH → R Bool) (e : Expr) : Prop := ∀ ρ vh env σ H Q k vh', Rel X.K cl ρ vh H → EnvR X.K X.N ρ H env σ → m env vh = .ok k vh' → PostT X.K cl ρ H vh' k Q → WB X e σ H Q
theorem SndB.t {m : Env → VH → R Bool} {e : Expr} (h : SndB X cl m e) : SndT X cl m e := fun ρ vh env σ H Q k vh' R E e1 p pins s I => h ρ vh env σ H Q k vh' R E e1 p _ pins s I
abbrev tstOf (m : Env → VH → R W) : Env → VH → R Bool := fun env h => (m env h).bind fun x h1 => ok? (truW h1 x) h1
theorem and_all {C : Cfg} {pos : Pos} : ∀ {as : List E} {es : List Expr}, as ≠ [] → AllS X cl C as es → SndE X cl (evAnd C as) (.BoolOp .And es pos) ∧ SndB X cl (tstOf (evAnd C as)) (.BoolOp .And es pos)
  | [], _, h0, _ => absurd rfl h0
  | [a], [e], _, h => by
    refine ⟨fun ρ vh env σ H Q w vh' R E e1 p => WE.of (pe_one pWE) (h.2.1 ρ vh env σ H Q w vh' R E e1 p), fun ρ vh env σ H Q k vh' R E e1 p => WB.of (pw_and1 pWT) (h.2.2.1 ρ vh env σ H Q k vh' R E e1 p)⟩
  | a :: b :: as, e :: f :: es, _, h => by
    obtain ⟨i1, i2⟩ := and_all (pos := pos) (as := b :: as) (es := f :: es) (by simp) h.2.2.2
    refine ⟨fun ρ vh env σ H Q w vh' R E e1 p => ?_, fun ρ vh env σ H Q k vh' R E e1 p => ?_⟩
    · have e1 : (evE C a env vh).bind (fun x h1 => (ok? (truW h1 x) h1).bind fun k h2 => if k then evAnd C (b :: as) env h2 else .ok x h2) = .ok w vh' := e1
      obtain ⟨x, h1, e2, e3⟩ := bnd e1
      obtain ⟨k, h2, e4, e5⟩ := bnd e3
      obtain ⟨e4, rfl⟩ := ok?_ok e4
      refine WE.of (pe_andT pWE pWE) (h.2.1 ρ vh env σ H _ x _ R E e2 fun ρ1 H1 v F1 R1 V1 => ⟨k, tru_of R1 e4 V1, ?_⟩)
      cases k with
      | true => exact i1 ρ1 _ env σ H1 Q w vh' R1 (E.stay R F1) e5 (p.from F1)
      | false => cases e5; exact p _ _ _ F1 R1 V1
    · obtain ⟨w, h0, e1, ew⟩ := bnd e1
      have e1 : (evE C a env vh).bind (fun x h1 => (ok? (truW h1 x) h1).bind fun k h2 => if k then evAnd C (b :: as) env h2 else .ok x h2) = .ok w h0 := e1
      obtain ⟨x, h1, e2, e3⟩ := bnd e1
      obtain ⟨k', h2, e4, e5⟩ := bnd e3
      have et : evT C a env vh = .ok k' h2 := by unfold evT; rw [e2]; exact e4
      refine WB.of (pw_and pWT pWB) (h.2.2.1 ρ vh env σ H _ k' h2 R E et fun ρ1 H1 F1 R1 => ?_)
      cases k' with
      | true =>
        exact i2 ρ1 h2 env σ H1 Q k vh' R1 (E.stay R F1) (by show Nw.R.bind _ _ = _; rw [show evAnd C (b :: as) env h2 = .ok w h0 from e5]; exact ew) (p.from F1)
      | false =>
        cases e5
        obtain ⟨e4, rfl⟩ := ok?_ok e4
        obtain ⟨ew, rfl⟩ := ok?_ok ew
        rw [e4] at ew; cases ew
        exact p _ _ F1 R1
  | [a], [], _, h => h.elim
  | [a], _ :: _ :: _, _, h => h.2.2.2.elim
  | _ :: _ :: _, [], _, h => h.elim
  | _ :: _ :: _, [_], _, h => h.2.2.2.elim
theorem or_all {C : Cfg} {pos : Pos} : ∀ {as : List E} {es : List Expr}, as ≠ [] → AllS X cl C as es → SndE X cl (evOr C as) (.BoolOp .Or es pos) ∧ SndB X cl (tstOf (evOr C as)) (.BoolOp .Or es pos)
  | [], _, h0, _ => absurd rfl h0
  | [a], [e], _, h => by
    refine ⟨fun ρ vh env σ H Q w vh' R E e1 p => WE.of (pe_one pWE) (h.2.1 ρ vh env σ H Q w vh' R E e1 p), fun ρ vh env σ H Q k vh' R E e1 p => WB.of (pw_or1 pWT) (h.2.2.1 ρ vh env σ H Q k vh' R E e1 p)⟩
  | a :: b :: as, e :: f :: es, _, h => by
    obtain ⟨i1, i2⟩ := or_all (pos := pos) (as := b :: as) (es := f :: es) (by simp) h.2.2.2
    refine ⟨fun ρ vh env σ H Q w vh' R E e1 p => ?_, fun ρ vh env σ H Q k vh' R E e1 p => ?_⟩
    · have e1 : (evE C a env vh).bind (fun x h1 => (ok? (truW h1 x) h1).bind fun k h2 => if k then .ok x h2 else evOr C (b :: as) env h2) = .ok w vh' := e1
      obtain ⟨x, h1, e2, e3⟩ := bnd e1
      obtain ⟨k, h2, e4, e5⟩ := bnd e3
      obtain ⟨e4, rfl⟩ := ok?_ok e4
      refine WE.of (pe_orT pWE pWE) (h.2.1 ρ vh env σ H _ x _ R E e2 fun ρ1 H1 v F1 R1 V1 => ⟨k, tru_of R1 e4 V1, ?_⟩)
      cases k with
      | false => exact i1 ρ1 _ env σ H1 Q w vh' R1 (E.stay R F1) e5 (p.from F1)
      | true => cases e5; exact p _ _ _ F1 R1 V1
    · obtain ⟨w, h0, e1, ew⟩ := bnd e1
      have e1 : (evE C a env vh).bind (fun x h1 => (ok? (truW h1 x) h1).bind fun k h2 => if k then .ok x h2 else evOr C (b :: as) env h2) = .ok w h0 := e1
      obtain ⟨x, h1, e2, e3⟩ := bnd e1
      obtain ⟨k', h2, e4, e5⟩ := bnd e3
      have et : evT C a env vh = .ok k' h2 := by unfold evT; rw [e2]; exact e4
      refine WB.of (pw_or pWT pWB) (h.2.2.1 ρ vh env σ H _ k' h2 R E et fun ρ1 H1 F1 R1 => ?_)
      cases k' with
      | false =>
        exact i2 ρ1 h2 env σ H1 Q k vh' R1 (E.stay R F1) (by show Nw.R.bind _ _ = _; rw [show evOr C (b :: as) env h2 = .ok w h0 from e5]; exact ew) (p.from F1)
      | true =>
        cases e5
        obtain ⟨e4, rfl⟩ := ok?_ok e4
        obtain ⟨ew, rfl⟩ := ok?_ok ew
        rw [e4] at ew; cases ew
        exact p _ _ F1 R1
  | [a], [], _, h => h.elim
  | [a], _ :: _ :: _, _, h => h.2.2.2.elim
  | _ :: _ :: _, [], _, h => h.elim
  | _ :: _ :: _, [_], _, h => h.2.2.2.elim
theorem evT_nt {C : Cfg} {a : E} {env : Env} {h : VH} : ((evT C a env h).bind fun b h2 => .ok (!b) h2) = evT C (.nt a) env h := by
  unfold evT
  show _ = ((evE C a env h).bind fun x h1 => (ok? (truW h1 x) h1).bind fun b h2 => .ok (.bl (!b)) h2).bind fun x h1 => ok? (truW h1 x) h1
  cases evE C a env h with
  | bad => rfl
  | ok x h1 =>
    show (ok? (truW h1 x) h1).bind _ = ((ok? (truW h1 x) h1).bind _).bind _
    cases truW h1 x <;> rfl
theorem evT_cmp {C : Cfg} {o : Cop} {a b : E} {env : Env} {h : VH} : ((evE C a env h).bind fun x h1 => (evE C b env h1).bind fun y h2 => ok? (cmpW o x y h2) h2) = evT C (.cmp o a b) env h := by
  unfold evT
  show _ = ((evE C a env h).bind fun x h1 => (evE C b env h1).bind fun y h2 => (ok? (cmpW o x y h2) h2).bind fun k h3 => .ok (.bl k) h3).bind fun x h1 => ok? (truW h1 x) h1
  cases evE C a env h with
  | bad => rfl
  | ok x h1 =>
    show (evE C b env h1).bind _ = ((evE C b env h1).bind _).bind _
    cases evE C b env h1 with
    | bad => rfl
    | ok y h2 =>
      show ok? (cmpW o x y h2) h2 = ((ok? (cmpW o x y h2) h2).bind _).bind _
      cases cmpW o x y h2 <;> rfl
theorem evT_ite {C : Cfg} {c a b : E} {env : Env} {h : VH} : ((evT C c env h).bind fun k h2 => if k then evT C a env h2 else evT C b env h2) = evT C (.ite c a b) env h := by
  unfold evT
  show _ = ((evE C c env h).bind fun x h1 => (ok? (truW h1 x) h1).bind fun k h2 => if k then evE C a env h2 else evE C b env h2).bind fun x h1 => ok? (truW h1 x) h1
  cases evE C c env h with
  | bad => rfl
  | ok x h1 =>
    show (ok? (truW h1 x) h1).bind _ = ((ok? (truW h1 x) h1).bind _).bind _
    cases truW h1 x with
    | none => rfl
    | some k => cases k <;> rfl
theorem locOk_blk {scope : Scope} {s : Shared} {H : Hp} {C : Addr} {clo : List (Str × Addr)} {fp : List Addr} : LocOk (X.blk s H scope (compEnvC scope clo C X.env) fp) (locB scope) := by
  intro x hx
  unfold locB at hx
  split at hx
  · rename_i h
    have q := lookup_relS_keep (sc := X.env.scope) (by decide) h
    exact ⟨.inl q, .inr q⟩
  · rename_i h
    have q := lookup_relS_keep (sc := X.env.scope) (by decide) h
    exact ⟨.inr q, .inl (by show (scope.names.lookup x == some .cell) = true; rw [h]; rfl)⟩
  · cases hx
theorem its_of {C : Cfg} {k : IK} {as : List E} {e tg : Expr} (ok : XOk P G n cl X) (h : (match itArgs X.env.scope k e with | some es => AllS X cl C as es | none => False)) : SndI X cl (fun env vh => (evEs C as env vh).bind fun ws h1 => itsOf k ws h1) tg e := by
  cases k with
  | plain =>
    simp only [itArgs] at h
    split at h
    · rename_i hs
      split at hs <;> cases hs
      match as, h with
      | [a], h => exact snd_plainI h.2.1
      | [], h => exact h.elim
      | _ :: _ :: _, h => exact h.2.2.2.elim
    · exact h.elim
  | range =>
    unfold itArgs at h
    split at h
    · rename_i es hs
      split at hs
      · rename_i hk; cases hk
      · split at hs
        · rename_i hc
          cases hs
          simp only [Bool.and_eq_true, decide_eq_true_eq] at hc
          obtain ⟨s1, s2⟩ := h.star
          exact snd_rangeI ok hc.1 hc.2 s1 (fun env h0 ws h' e => by rw [s2]; exact evEs_len e) h.a.1
        · cases hs
      · cases hs
    · exact h.elim
  | zip =>
    unfold itArgs at h
    split at h
    · rename_i es hs
      split at hs
      · rename_i hk; cases hk
      · rename_i hk; cases hk
      · cases hs
    · exact h.elim

theorem SndE.val {C : Cfg} {a : E} {e : Expr} (hp : plainT e = true) (h : SndE X cl (evE C a) e) : SndE X cl (evE C a) e ∧ SndT X cl (evT C a) e := ⟨h, snd_valT hp h⟩
def BothE (X : Cx) (cl : Nat → Option Addr) (C : Cfg) (a : E) (e : Expr) : Prop := SndE X cl (evE C a) e ∧ SndT X cl (evT C a) e
theorem BothE.of {C : Cfg} {a : E} {e : Expr} (hp : plainT e = true) (h : SndE X cl (evE C a) e) : BothE X cl C a e := ⟨h, snd_valT hp h⟩
mutual
theorem sndE : ∀ (a : E) {X : Cx} (ok : XOk P G n cl X) (e : Expr), chkE X.N G X.env.scope a e = true → BothE X cl (P.cfg n) a e
  | .var i, X, ok, e, h => by
    cases e <;> first | (simp [chkE] at h; done) | skip
    simp only [chkE, Bool.and_eq_true, decide_eq_true_eq] at h
    exact .of rfl (snd_var h.1.1 h.1.2 h.2)
  | .cst w, X, ok, e, h => by
    have h : cstB w e = true := by cases e <;> simpa only [chkE] using h
    have hp : plainT e = true := by
      cases e <;> first | rfl | (cases w <;> simp [cstB] at h)
    exact .of hp (snd_cst h)
  | .gl x, X, ok, e, h => by
    cases e <;> first | (simp [chkE] at h; done) | skip
    simp only [chkE, Bool.and_eq_true, decide_eq_true_eq] at h
    cases h.1.1
    exact .of rfl (snd_gl ok h.1.2 h.2)
  | .bin o a b, X, ok, e, h => by
    cases e <;> first | (simp [chkE] at h; done) | skip
    simp only [chkE, Bool.and_eq_true] at h
    exact .of rfl (snd_binE ok h.1.1 (sndE a ok _ h.1.2).1 (sndE b ok _ h.2).1)
  | .neg a, X, ok, e, h => by
    cases e <;> first | (simp [chkE] at h; done) | skip
    rename_i op x pos
    cases op <;> first | (simp [chkE] at h; done) | skip
    simp only [chkE] at h
    exact .of rfl (snd_negE (sndE a ok _ h).1)
  | .nt a, X, ok, e, h => by
    cases e <;> first | (simp [chkE] at h; done) | skip
    rename_i op x pos
    cases op <;> first | (simp [chkE] at h; done) | skip
    simp only [chkE] at h
    have ih := sndE a ok _ h
    exact ⟨snd_ntE ih.1, .congr (fun env vh => evT_nt) (snd_ntT ih.2)⟩
  | .cmp o a b, X, ok, e, h => by
    cases e <;> first | (simp [chkE] at h; done) | skip
    rename_i l ops cs pos
    match ops, cs, h with
    | [o'], [b'], h =>
      simp only [chkE, Bool.and_eq_true] at h
      have i1 := (sndE a ok _ h.1.2).1
      have i2 := (sndE b ok _ h.2).1
      exact ⟨snd_cmpE ok h.1.1.1 h.1.1.2 i1 i2, .congr (fun env vh => evT_cmp) (snd_cmpT ok h.1.1.1 h.1.1.2 i1 i2)⟩
    | [], _, h => exact absurd h (by simp [chkE])
    | _ :: _ :: _, _, h => exact absurd h (by simp [chkE])
    | [_], [], h => exact absurd h (by simp [chkE])
    | [_], _ :: _ :: _, h => exact absurd h (by simp [chkE])
  | .chn o q a b c, X, ok, e, h => by
    cases e <;> first | (simp [chkE] at h; done) | skip
    rename_i l ops cs pos
    match ops, cs, h with
    | [o', q'], [b', c'], h =>
      simp only [chkE, Bool.and_eq_true] at h
      have i1 := (sndE a ok _ h.1.1.2).1
      have i2 := (sndE b ok _ h.1.2).1
      have i3 := (sndE c ok _ h.2).1
      exact ⟨snd_chnE ok h.1.1.1.1.1.1 h.1.1.1.1.1.2 h.1.1.1.1.2 h.1.1.1.2 i1 i2 i3, snd_chnT ok h.1.1.1.1.1.1 h.1.1.1.1.1.2 h.1.1.1.1.2 h.1.1.1.2 i1 i2 i3⟩
    | [], _, h => exact absurd h (by simp [chkE])
    | [_], _, h => exact absurd h (by simp [chkE])
    | _ :: _ :: _ :: _, _, h => exact absurd h (by simp [chkE])
    | [_, _], [], h => exact absurd h (by simp [chkE])
    | [_, _], [_], h => exact absurd h (by simp [chkE])
    | [_, _], _ :: _ :: _ :: _, h => exact absurd h (by simp [chkE])
  | .and as, X, ok, e, h => by
    cases e <;> first | (simp [chkE] at h; done) | skip
    rename_i op es pos
    cases op <;> first | (simp [chkE] at h; done) | skip
    simp only [chkE, Bool.and_eq_true, Bool.not_eq_true', List.isEmpty_eq_false_iff] at h
    obtain ⟨h1, h2⟩ := and_all (pos := pos) h.2 (sndEs as ok _ h.1)
    exact ⟨h1, h2.t⟩
  | .or as, X, ok, e, h => by
    cases e <;> first | (simp [chkE] at h; done) | skip
    rename_i op es pos
    cases op <;> first | (simp [chkE] at h; done) | skip
    simp only [chkE, Bool.and_eq_true, Bool.not_eq_true', List.isEmpty_eq_false_iff] at h
    obtain ⟨h1, h2⟩ := or_all (pos := pos) h.2 (sndEs as ok _ h.1)
    exact ⟨h1, h2.t⟩
  | .ite c a b, X, ok, e, h => by
    cases e <;> first | (simp [chkE] at h; done) | skip
    simp only [chkE, Bool.and_eq_true] at h
    have i1 := sndE c ok _ h.1.1
    have i2 := sndE a ok _ h.1.2
    have i3 := sndE b ok _ h.2
    refine ⟨.congr (fun env vh => ?_) (snd_iteE i1.2 i2.1 i3.1), .congr (fun env vh => evT_ite) (snd_iteT i1.2 i2.2 i3.2)⟩
    show ((evE _ c env vh).bind fun x h1 => ok? (truW h1 x) h1).bind _ = (evE _ c env vh).bind _
    cases evE (P.cfg n) c env vh <;> rfl
  | .tup as, X, ok, e, h => by
    cases e <;> first | (simp [chkE] at h; done) | skip
    simp only [chkE] at h
    exact .of rfl (snd_tupE (sndEs as ok _ h).a.1)
  | .lst as, X, ok, e, h => by
    cases e <;> first | (simp [chkE] at h; done) | skip
    simp only [chkE] at h
    exact .of rfl (snd_lstE (sndEs as ok _ h).a.1)
  | .dct ks as, X, ok, e, h => by
    cases e <;> first | (simp [chkE] at h; done) | skip
    simp only [chkE, Bool.and_eq_true, decide_eq_true_eq] at h
    have ih := sndEs as ok _ h.1.1.2
    refine .of rfl (snd_dctE h.1.1.1 (by rw [ih.star.2]; exact h.1.2) h.2 ih.a.2 fun he env vh => ?_)
    have : as = [] := List.length_eq_zero_iff.mp (by rw [← ih.star.2, he]; rfl)
    subst this
    rfl
  | .ix a b, X, ok, e, h => by
    cases e <;> first | (simp [chkE] at h; done) | skip
    simp only [chkE, Bool.and_eq_true] at h
    exact .of rfl (snd_ixE ok h.1.1 (sndE a ok _ h.1.2).1 (sndE b ok _ h.2).1)
  | .sl a lo hi, X, ok, e, h => by
    cases e <;> first | (simp [chkE] at h; done) | skip
    rename_i v s pos
    cases s <;> first | (simp [chkE] at h; done) | skip
    rename_i l u st p2
    cases st <;> first | (simp [chkE] at h; done) | skip
    simp only [chkE, Bool.and_eq_true] at h
    exact .of rfl (snd_slE (sndE a ok _ h.1.1).1 (sndO lo ok _ h.1.2) (sndO hi ok _ h.2))
  | .rev a, X, ok, e, h => by
    exact absurd h (by cases e <;> simp [chkE])
  | .call f as, X, ok, e, h => by
    cases e <;> first | (simp [chkE] at h; done) | skip
    rename_i fe es kws pos
    cases fe <;> first | (simp [chkE] at h; done) | skip
    cases kws <;> first | (simp [chkE] at h; done) | skip
    simp only [chkE, Bool.and_eq_true, decide_eq_true_eq] at h
    have ih := sndEs as ok _ h.2
    match as, es, ih with
    | [], [], _ => exact .of rfl (snd_call0E ok h.1.1.1 h.1.1.2 h.1.2)
    | a :: as, e0 :: es, ih => exact .of rfl (snd_callE ok h.1.1.1 h.1.1.2 h.1.2 ih.1 ih.2.2.2.star.1 ih.a.1)
    | [], _ :: _, ih => exact ih.elim
    | _ :: _, [], ih => exact ih.elim
  | .bi f as, X, ok, e, h => by
    cases e <;> first | (simp [chkE] at h; done) | skip
    rename_i fe es kws pos
    cases fe <;> first | (simp [chkE] at h; done) | skip
    cases kws <;> first | (simp [chkE] at h; done) | skip
    simp only [chkE, Bool.and_eq_true, decide_eq_true_eq] at h
    have ih := sndEs as ok _ h.1.2
    match as, es, ih, h with
    | [], [], _, h => exact absurd h.2 (by simp)
    | a :: as, e0 :: es, ih, h => exact .of rfl (snd_biE ok h.1.1.1 h.1.1.2 ih.1 ih.2.2.2.star.1 ih.a.1)
    | [], _ :: _, ih, _ => exact ih.elim
    | _ :: _, [], ih, _ => exact ih.elim
  | .isi a t, X, ok, e, h => by
    cases e <;> first | (simp [chkE] at h; done) | skip
    rename_i fe es kws pos
    cases fe <;> first | (simp [chkE] at h; done) | skip
    cases kws <;> first | (simp [chkE] at h; done) | skip
    match es, h with
    | [a', .Name y yp], h =>
      simp only [chkE, Bool.and_eq_true, decide_eq_true_eq] at h
      exact .of rfl (snd_isiE ok h.1.1.1.1.1 h.1.1.1.1.2 h.1.1.1.2 h.1.1.2 h.1.2 (sndE a ok _ h.2).1)
    | [], h => exact absurd h (by simp [chkE])
    | [_], h => exact absurd h (by simp [chkE])
    | _ :: _ :: _ :: _, h => exact absurd h (by simp [chkE])
    | [_, .BoolOp .. ], h | [_, .NamedExpr ..], h | [_, .BinOp ..], h | [_, .UnaryOp ..], h | [_, .Lambda ..], h | [_, .IfExp ..], h | [_, .Dict ..], h | [_, .Set ..], h | [_, .ListComp ..], h | [_, .SetComp ..], h | [_, .DictComp ..], h
    | [_, .GeneratorExp ..], h | [_, .Await ..], h | [_, .Yield ..], h | [_, .YieldFrom ..], h | [_, .Compare ..], h | [_, .Call ..], h | [_, .FormattedValue ..], h | [_, .JoinedStr ..], h | [_, .Constant ..], h | [_, .Attribute ..], h | [_, .Subscript ..], h
    | [_, .Starred ..], h | [_, .List ..], h | [_, .Tuple ..], h | [_, .Slice ..], h => exact absurd h (by simp [chkE])
  | .mth o m as, X, ok, e, h => by
    cases e <;> first | (simp [chkE] at h; done) | skip
    rename_i fe es kws cp
    cases fe <;> first | (simp [chkE] at h; done) | skip
    cases kws <;> first | (simp [chkE] at h; done) | skip
    rename_i o' m' ap
    simp only [chkE, Bool.and_eq_true, decide_eq_true_eq] at h
    obtain ⟨⟨⟨⟨⟨rfl, h2⟩, h3⟩, h4⟩, h5⟩, h6⟩ := h
    have i1 := (sndE o ok _ h3).1
    have ih := sndEs as ok _ h4
    match as, es, ih with
    | [], [], _ => exact .of rfl (snd_mth0E ok h2 h5 i1)
    | a :: as, e0 :: es, ih =>
      have l := ih.star.2
      exact .of rfl (snd_mthE ok h2 h5 ih.1 ih.2.2.2.star.1 (by rw [l]; omega) i1 ih.a.1)
    | [], _ :: _, ih => exact ih.elim
    | _ :: _, [], ih => exact ih.elim
  | .fld o f, X, ok, e, h => by
    cases e <;> first | (simp [chkE] at h; done) | skip
    simp only [chkE, Bool.and_eq_true, decide_eq_true_eq] at h
    obtain ⟨⟨rfl, h2⟩, h3⟩ := h
    exact .of rfl (snd_fldE ok h2 (sndE o ok _ h3).1)
  | .new c as, X, ok, e, h => by
    cases e <;> first | (simp [chkE] at h; done) | skip
    rename_i fe es kws pos
    cases fe <;> first | (simp [chkE] at h; done) | skip
    cases kws <;> first | (simp [chkE] at h; done) | skip
    simp only [chkE, Bool.and_eq_true, decide_eq_true_eq] at h
    have ih := sndEs as ok _ h.2
    match as, es, ih with
    | [], [], _ => exact .of rfl (snd_new0E ok h.1.1.1 h.1.1.2 h.1.2)
    | a :: as, e0 :: es, ih => exact .of rfl (snd_newE ok h.1.1.1 h.1.1.2 h.1.2 ih.1 ih.2.2.2.star.1 ih.a.1)
    | [], _ :: _, ih => exact ih.elim
    | _ :: _, [], ih => exact ih.elim
  | .trg as, X, ok, e, h => by
    cases e <;> first | (simp [chkE] at h; done) | skip
    rename_i fe es kws pos
    cases fe <;> first | (simp [chkE] at h; done) | skip
    cases kws <;> first | (simp [chkE] at h; done) | skip
    match es, h with
    | [.Call (.Name y yp) es' [] ypos], h =>
      simp only [chkE, Bool.and_eq_true, decide_eq_true_eq] at h
      have ih := sndEs as ok _ h.2
      match as, es', ih with
      | [a], [a'], ih => exact .of rfl (snd_trg1 ok h.1.1.1.1 h.1.1.1.2 h.1.1.2 h.1.2 ih.1 ih.2.1)
      | [a, b], [a', b'], ih => exact .of rfl (snd_trg2 ok h.1.1.1.1 h.1.1.1.2 h.1.1.2 h.1.2 ih.1 ih.2.2.2.1 ih.2.1 ih.2.2.2.2.1)
      | [], [], _ => exact .of rfl (fun ρ vh env σ H Q w vh' R E e p => by cases e)
      | _ :: _ :: _ :: _, _ :: _ :: _ :: _, _ => exact .of rfl (fun ρ vh env σ H Q w vh' R E e p => by
          obtain ⟨ws, h1, e1, e2⟩ := bnd e
          have := evEs_len e1
          match ws, this, e2 with
          | _ :: _ :: _ :: _, _, e2 => exact absurd e2 (by simp)
          | [], t, _ => simp at t
          | [_], t, _ => simp at t
          | [_, _], t, _ => simp at t)
      | [], _ :: _, ih => exact ih.elim
      | _ :: _, [], ih => exact ih.elim
      | [_], _ :: _ :: _, ih => exact ih.2.2.2.elim
      | _ :: _ :: _, [_], ih => exact ih.2.2.2.elim
      | [_, _], _ :: _ :: _ :: _, ih => exact ih.2.2.2.2.2.2.elim
      | _ :: _ :: _ :: _, [_, _], ih => exact ih.2.2.2.2.2.2.elim
    | [], h => exact absurd h (by simp [chkE])
    | _ :: _ :: _, h => exact absurd h (by simp [chkE])
    | [.Call (.Name _ _) _ (_ :: _) _], h => exact absurd h (by simp [chkE])
    | [.Call (.Attribute ..) _ _ _], h | [.Call (.Call ..) _ _ _], h | [.Call (.BoolOp ..) _ _ _], h | [.Call (.NamedExpr ..) _ _ _], h | [.Call (.BinOp ..) _ _ _], h | [.Call (.UnaryOp ..) _ _ _], h | [.Call (.Lambda ..) _ _ _], h | [.Call (.IfExp ..) _ _ _], h
    | [.Call (.Dict ..) _ _ _], h | [.Call (.Set ..) _ _ _], h | [.Call (.ListComp ..) _ _ _], h | [.Call (.SetComp ..) _ _ _], h | [.Call (.DictComp ..) _ _ _], h | [.Call (.GeneratorExp ..) _ _ _], h | [.Call (.Await ..) _ _ _], h | [.Call (.Yield ..) _ _ _], h
    | [.Call (.YieldFrom ..) _ _ _], h | [.Call (.Compare ..) _ _ _], h | [.Call (.FormattedValue ..) _ _ _], h | [.Call (.JoinedStr ..) _ _ _], h | [.Call (.Constant ..) _ _ _], h | [.Call (.Subscript ..) _ _ _], h | [.Call (.Starred ..) _ _ _], h
    | [.Call (.List ..) _ _ _], h | [.Call (.Tuple ..) _ _ _], h | [.Call (.Slice ..) _ _ _], h => exact absurd h (by simp [chkE])
    | [.BoolOp .. ], h | [.NamedExpr ..], h | [.BinOp ..], h | [.UnaryOp ..], h | [.Lambda ..], h | [.IfExp ..], h | [.Dict ..], h | [.Set ..], h | [.ListComp ..], h | [.SetComp ..], h | [.DictComp ..], h
    | [.GeneratorExp ..], h | [.Await ..], h | [.Yield ..], h | [.YieldFrom ..], h | [.Compare ..], h | [.FormattedValue ..], h | [.JoinedStr ..], h | [.Constant ..], h | [.Attribute ..], h | [.Subscript ..], h
    | [.Starred ..], h | [.List ..], h | [.Tuple ..], h | [.Slice ..], h | [.Name ..], h => exact absurd h (by simp [chkE])
  | .lc elt own tg k it cs, X, ok, e, h => by
    cases e <;> first | (simp [chkE] at h; done) | skip
    rename_i elt' gens scope pos
    match gens, h with
    | [⟨tg', it', ifs', a⟩], h =>
      simp only [chkE, Bool.and_eq_true, decide_eq_true_eq] at h
      obtain ⟨⟨⟨⟨⟨⟨⟨⟨rfl, h1⟩, h2⟩, h3⟩, h4⟩, h5⟩, h6⟩, h7⟩, h8⟩ := h
      have hi : SndI X cl (fun env vh => (evEs (P.cfg n) it env vh).bind fun ws h1 => itsOf k ws h1) tg' it' := its_of ok (by
        cases hit : itArgs X.env.scope k it' with
        | none => rw [hit] at h5; cases h5
        | some es =>
          rw [hit] at h5
          exact sndEs it ok es h5)
      have hg : Blk X scope fun Y => SndG Y cl tg tg' := fun s H C clo fp => sndTN (P := P) (G := G) (n := n) (X := X.blk s H scope (compEnvC scope clo C X.env) fp) (ok.blk s H scope _ fp) locOk_blk h4
      have he : Blk X scope fun Y => SndE Y cl (evE (P.cfg n) elt) elt' := fun s H C clo fp => (sndE elt (X := X.blk s H scope (compEnvC scope clo C X.env) fp) (ok.blk s H scope _ fp) elt' h8).1
      have ht : SndTs X cl scope (evTs (P.cfg n) cs) ifs' := by
        match cs, ifs', h6, h7 with
        | [], [], _, _ => exact snd_ts0
        | [c], [c'], h6, _ =>
          simp only [chkEs, Bool.and_true, Bool.and_eq_true] at h6
          refine snd_ts1 fun s H C clo fp => ?_
          have ic := (sndE c (X := X.blk s H scope (compEnvC scope clo C X.env) fp) (ok.blk s H scope _ fp) c' h6.2).2
          refine SndT.congr (fun env vh => ?_) ic
          show ((evE _ c env vh).bind fun x h1 => ok? (truW h1 x) h1) = (evE _ c env vh).bind fun x h1 => (ok? (truW h1 x) h1).bind fun k h2 => if k then .ok true h2 else .ok false h2
          cases evE (P.cfg n) c env vh with
          | bad => rfl
          | ok x h1 =>
            show ok? (truW h1 x) h1 = (ok? (truW h1 x) h1).bind _
            cases truW h1 x with
            | none => rfl
            | some k => cases k <;> rfl
        | [], _ :: _, h6, _ => simp [chkEs] at h6
        | [_], [], h6, _ => simp [chkEs] at h6
        | [_], _ :: _ :: _, h6, _ => simp [chkEs] at h6
        | _ :: _ :: _, _, _, h7 => simp at h7
      refine .of rfl (.congr (fun env vh => ?_) (snd_lcE ok (blkOk_by h3) (by simp [List.map_map, Function.comp_def]) h2 hi hg h1 ht he))
      show ((evEs _ it env vh).bind fun ws h1 => itsOf k ws h1).bind _ = (evEs _ it env vh).bind _
      cases evEs (P.cfg n) it env vh <;> rfl
    | [], h => exact absurd h (by simp [chkE])
    | _ :: _ :: _, h => exact absurd h (by simp [chkE])
theorem sndEs : ∀ (as : List E) {X : Cx} (ok : XOk P G n cl X) (es : List Expr), chkEs X.N G X.env.scope as es = true → AllS X cl (P.cfg n) as es
  | [], X, ok, es, h => by
    cases es with
    | nil => exact True.intro
    | cons _ _ => simp [chkEs] at h
  | a :: as, X, ok, es, h => by
    cases es with
    | nil => simp [chkEs] at h
    | cons e es =>
      simp only [chkEs, Bool.and_eq_true] at h
      have i1 := sndE a ok e h.1.2
      exact ⟨h.1.1, i1.1, i1.2, sndEs as ok es h.2⟩
theorem sndO : ∀ (a : Option E) {X : Cx} (ok : XOk P G n cl X) (e : Option Expr), chkO X.N G X.env.scope a e = true → SndO X cl (evO (P.cfg n) a) e
  | none, X, ok, e, h => by
    cases e with
    | none => exact snd_O0
    | some _ => simp [chkO] at h
  | some a, X, ok, e, h => by
    cases e with
    | none => simp [chkO] at h
    | some e =>
      simp only [chkO] at h
      exact snd_O1 (sndE a ok e h).1
end
end
end Nw

set_option Elab.async false
set_option linter.all false
set_option maxRecDepth 100000
set_option maxHeartbeats 4000000
/-! Nw, part I: statements. -/
namespace Nw
open PySem PySem.Spec PyProof.Rows L2

abbrev WS (X : Cx) (st : Stmt) : TS := fun D σ H => ∀ (pins : List (Addr × Obj)) (s : Shared), Inv X pins σ H s → wpAny (model X.prog X.w) X.A (exec st X.env) (SP X pins D) X.xe s
theorem pWS {X : Cx} {st : Stmt} : PS X st (WS X st) := ⟨fun pins s σ H D I h => h pins s I⟩
theorem WS.of {X : Cx} {st : Stmt} {t : TS} (h : PS X st t) {D : Ends} {σ : L2.St} {H : Hp} (q : t D σ H) : WS X st D σ H := fun pins s I => h.run pins s σ H D I q
abbrev WSs (X : Cx) (st : List Stmt) : TS := fun D σ H => ∀ (pins : List (Addr × Obj)) (s : Shared), Inv X pins σ H s → wpAny (model X.prog X.w) X.A (execs st X.env) (SP X pins D) X.xe s
theorem pWSs {X : Cx} {st : List Stmt} : PSs X st (WSs X st) := ⟨fun pins s σ H D I h => h pins s I⟩
theorem WSs.of {X : Cx} {st : List Stmt} {t : TS} (h : PSs X st t) {D : Ends} {σ : L2.St} {H : Hp} (q : t D σ H) : WSs X st D σ H := fun pins s I => h.run pins s σ H D I q

section
variable {P : Prog} {G : GN} {n : Nat} {cl : Nat → Option Addr} {X : Cx}
def EndOk (K : PySem.W.Frag) (ρ : List Addr) (H : Hp) (D : Ends) (σ : L2.St) : Fl → Prop
  | .nx => D.nx σ H
  | .rt w => ∀ v, ValR K ρ H w v → D.rt v H
  | .bk => D.bk σ H
  | .ct => D.ct σ H
abbrev PostS (X : Cx) (cl : Nat → Option Addr) (ρ : List Addr) (H : Hp) (vh' : VH) (fl : Fl) (env' : Env) (D : Ends) : Prop :=
  ∀ ρ' H' σ', Fr ρ H ρ' H' → Rel X.K cl ρ' vh' H' → EnvR X.K X.N ρ' H' env' σ' → EndOk X.K ρ' H' D σ' fl
theorem PostS.from {ρ ρ1 : List Addr} {H H1 : Hp} {vh' : VH} {fl : Fl} {env' : Env} {D : Ends} (F : Fr ρ H ρ1 H1) (p : PostS X cl ρ H vh' fl env' D) : PostS X cl ρ1 H1 vh' fl env' D := fun ρ' H' σ' f r e => p ρ' H' σ' (F.trans f) r e
def SndS (X : Cx) (cl : Nat → Option Addr) (m : Env → VH → R (Fl × Env)) (st : Stmt) : Prop := ∀ ρ vh env σ H D fl env' vh', Rel X.K cl ρ vh H → EnvR X.K X.N ρ H env σ → m env vh = .ok (fl, env') vh' → PostS X cl ρ H vh' fl env' D → WS X st D σ H
def SndSs (X : Cx) (cl : Nat → Option Addr) (m : Env → VH → R (Fl × Env)) (st : List Stmt) : Prop := ∀ ρ vh env σ H D fl env' vh', Rel X.K cl ρ vh H → EnvR X.K X.N ρ H env σ → m env vh = .ok (fl, env') vh' → PostS X cl ρ H vh' fl env' D → WSs X st D σ H

/-! ### targets of a statement -/
def SndTg (X : Cx) (cl : Nat → Option Addr) (C : Cfg) (t : Tg) (tg : Expr) : Prop := ∀ ρ vh env σ H Q w v env' vh', Rel X.K cl ρ vh H → EnvR X.K X.N ρ H env σ → asT C t w env vh = .ok env' vh' → ValR X.K ρ H w v →
  (∀ ρ' H' σ', Fr ρ H ρ' H' → Rel X.K cl ρ' vh' H' → EnvR X.K X.N ρ' H' env' σ' → Q σ' H') → WG X tg v σ H Q
def SndTgs (X : Cx) (cl : Nat → Option Addr) (C : Cfg) (ts : List Tg) (tgs : List Expr) : Prop := ∀ ρ vh env σ H Q ws vs env' vh', Rel X.K cl ρ vh H → EnvR X.K X.N ρ H env σ → asTs C ts ws env vh = .ok env' vh' → ValsR X.K ρ H ws vs →
  (∀ ρ' H' σ', Fr ρ H ρ' H' → Rel X.K cl ρ' vh' H' → EnvR X.K X.N ρ' H' env' σ' → Q σ' H') → WGs X tgs vs σ H Q
theorem asTs_len {C : Cfg} : ∀ {ts : List Tg} {ws : List W} {env env' : Env} {h h' : VH}, asTs C ts ws env h = .ok env' h' → ws.length = ts.length
  | [], [], _, _, _, _, _ => rfl
  | t :: ts, w :: ws, env, env', h, h', e => by
    obtain ⟨e1, h1, _, e2⟩ := bnd (show (asT C t w env h).bind (fun e h1 => asTs C ts ws e h1) = .ok env' h' from e)
    simp [asTs_len e2]
  | [], _ :: _, _, _, _, _, e => by simp [asTs] at e
  | _ :: _, [], _, _, _, _, e => by simp [asTs] at e
theorem tgs_star : ∀ {ts : List Tg} {es : List Expr} {N : List Str} {sc : Scope}, chkTs N G sc ts es = true → es.all notStar = true ∧ es.length = ts.length
  | [], [], _, _, _ => ⟨rfl, rfl⟩
  | t :: ts, e :: es, _, _, h => by
    simp only [chkTs, Bool.and_eq_true] at h
    obtain ⟨h1, h2⟩ := tgs_star h.2
    exact ⟨by rw [List.all_cons, h.1.1, h1]; rfl, by simp [h2]⟩
  | [], _ :: _, _, _, h => by simp [chkTs] at h
  | _ :: _, [], _, _, h => by simp [chkTs] at h
theorem asg_sub {o i : Expr} {pos : Pos} (h : notSlice i = true) (env : PySem.Env) (v : Value) : assign (.Subscript o i pos) env v = (do
      let ov ← holding [v] (eval o env)
      let iv ← holding [v, ov] (eval i env)
      standAt pos
      holding [v, ov, iv] (setItem ov iv v)
      release [v, ov, iv] []) := by
  cases i <;> first | rfl | cases h
/-- a store into a field -/
def gFld (K : PySem.W.Frag) (ta : TE) (f : Str) : TG := fun y σ H Q => ta σ H fun x H2 => ∃ a C dx fs, x = .ref a ∧ H2 a = some (.ins C dx fs) ∧ Cls K C ∧ NoAttr K C f ∧ fs.length < 1000 ∧ Q σ (upd H2 a (.ins C dx (putF f y fs)))
theorem pg_fld {o : Expr} {f : Str} {pos : Pos} {ta : TE} (ha : PE X o ta) : PG X (.Attribute o f pos) (gFld X.K ta f) := by
  refine ⟨fun pins s σ H v u Q I r h => ?_⟩
  show wpAny _ _ (do
    let ov ← holding [u] (eval o X.env)
    standAt pos.atName
    holding [u, ov] (setAttr ov f u)
    release [u, ov] []) _ _ _
  refine wpAny_bind (wpAny_holding (thn (ha.run pins s σ H _ I h) fun ov s1 ⟨x, H1, I1, r1, a, C, dx, fs, ex, ea, c, n, l, q1⟩ => ?_))
  subst ex
  obtain rfl : ov = Value.ref a := r1
  refine wpAny_bind (wpAny_standAt (wpAny_bind (wpAny_holding (setattr_ok I1 ea c n l r fun s3 I3 => ?_))))
  exact wpAny_release ⟨σ, _, I3, q1⟩
/-- a store into a slice of a list -/
def gSlS (to tl th : TE) : TG := fun y σ H Q => to σ H fun x H1 => tl σ H1 fun lo H2 => th σ H2 fun hi H3 => ∃ (l b : Addr) (xs ys : List V) (a c : Int), x = .ref l ∧ lo = .int a ∧ hi = .int c ∧ y = .ref b ∧ H3 l = some (.lst xs) ∧ H3 b = some (.lst ys) ∧ l ≠ b ∧
  0 ≤ a ∧ a ≤ c ∧ c ≤ xs.length ∧ xs.length + ys.length ≤ sizeLine ∧ Q σ (upd H3 l (.lst (xs.take a.toNat ++ ys ++ xs.drop c.toNat)))
theorem pg_slS {o lo hi : Expr} {p2 pos : Pos} {to tl th : TE} (ho : PE X o to) (hl : PE X lo tl) (hh : PE X hi th) : PG X (.Subscript o (.Slice (some lo) (some hi) none p2) pos) (gSlS to tl th) := by
  refine ⟨fun pins s σ H v u Q I r h => ?_⟩
  show wpAny _ _ (do
    let ov ← holding [u] (eval o X.env)
    let iv ← holding [u, ov] (eval (.Slice (some lo) (some hi) none p2) X.env)
    standAt pos
    holding [u, ov, iv] (setItem ov iv u)
    release [iv, u, ov] []) _ _ _
  refine wpAny_bind (wpAny_holding (thn (ho.run pins s σ H _ I h) fun ov s1 ⟨x, H1, I1, r1, q1⟩ => ?_))
  refine wpAny_bind (wpAny_holding ?_)
  refine wpAny_Slice ?_
  rw [evalPart_some, evalPart_some, evalPart_none]
  refine thn (hl.run pins s1 σ H1 _ I1 q1) fun vl s2 ⟨a', H2, I2, r2, q2⟩ => thn (hh.run pins s2 σ H2 _ I2 q2) fun vu s3 ⟨c', H3, I3, r3, l, b, xs, ys, a, c, e1, e2, e3, e4, g1, g2, ne, h0, hac, hc, hz, q⟩ => ?_
  subst e1 e2 e3 e4
  refine wpAny_pure ?_
  obtain rfl : ov = Value.ref l := r1
  obtain rfl : u = Value.ref b := r
  have I4 : Inv X pins σ H3 { s3 with heap := s3.heap.push { cls := .type "slice", data := .fields #[vl, vu, .none] } } := I3.kept (t' := s3.toks) fun b ob q => Heap.get?_push_of_some _ q
  refine wpAny_bind (wpAny_standAt (wpAny_bind (wpAny_holding (set_slice I4 g1 g2 ne (Heap.IsSliceOf.new ..) r2 r3 h0 hac hc hz fun s5 I5 => ?_))))
  exact wpAny_release ⟨σ, _, I5, q⟩
theorem pg_sub' {o i : Expr} {pos : Pos} {to ti : TE} {t : TSet} (hi' : notSlice i = true) (ho : PE X o to) (hi : PE X i ti) (hs : PSet X t) : PG X (.Subscript o i pos) (gSub to ti t) := pg_sub ho hi hs (fun v => asg_sub hi' _ _)
/-- a field is stored -/
theorem snd_att (ok : XOk P G n cl X) {ρ : List Addr} {vh vh' : VH} {H : Hp} {x w : W} {ov v : V} {f : Str} (R : Rel X.K cl ρ vh H) (hx : ValR X.K ρ H x ov) (hw : ValR X.K ρ H w v) (e : attW (P.cfg n).fok x f w vh = .ok () vh') :
    ∃ a C dx l, ov = .ref a ∧ H a = some (.ins C dx l) ∧ Cls X.K C ∧ NoAttr X.K C f ∧ l.length < 1000 ∧ ∀ Q : Hp → Prop, PostH X.K cl ρ H vh' Q → Q (upd H a (.ins C dx (putF f v l))) := by
  unfold attW at e
  split at e
  · split at e
    · rename_i r c fs hz
      split at e
      · rename_i hc
        cases e
        obtain ⟨a, rfl, hr⟩ := vr_ref.mp hx
        obtain ⟨C, dx, l, hcl, h3, h4, h5⟩ := R.at hr hz
        have na := ok.fokN c C f hcl hc.2
        refine ⟨a, C, dx, l, rfl, h3, ok.isC c C hcl, na, by rw [kvr_flen h4]; omega, fun Q q => q _ _ (Fr.write hr) (R.write hr ⟨C, dx, _, hcl, upd_same, KvR.stay R (Fr.write hr) (kvr_fset hw h4), fun p hp => ?_⟩)⟩
        rcases fset_keys p hp with z | ⟨q, q1, q2⟩
        · rw [z]; exact na
        · rw [← q2]; exact h5 q q1
      · cases e
    · cases e
  · cases e
mutual
theorem sndTg (ok : XOk P G n cl X) (hf : ∀ x, X.fn x = true) : ∀ {t : Tg} {e : Expr}, chkT X.N G X.env.scope t e = true → SndTg X cl (P.cfg n) t e
  | .nm i, e, h => by
    cases e <;> first | (simp [chkT] at h; done) | skip
    simp only [chkT, Bool.and_eq_true, decide_eq_true_eq] at h
    intro ρ vh env σ H Q w v env' vh' R E e V q
    cases e
    exact WG.of (pg_name ok.nd h.1 (loc_of h.2) (.inl (hf _))) (q _ _ _ Fr.rfl' R (E.set (List.getElem?_eq_some_iff.mp h.1).1 V))
  | .tp ts, e, h => by
    cases e <;> first | (simp [chkT] at h; done) | skip
    simp only [chkT] at h
    have ih := sndTgs ok hf h
    obtain ⟨s1, s2⟩ := tgs_star h
    obtain ⟨a1, a2⟩ := asg_plain X.env s1
    intro ρ vh env σ H Q w v env' vh' R E e V q
    cases w <;> first | (simp [asT] at e; done) | skip
    rename_i ws
    have e : asTs (P.cfg n) ts ws env vh = .ok env' vh' := e
    obtain ⟨p, xs, rfl, k1, k2⟩ := vr_tup.mp V
    exact WG.of (pg_tup ok.calm pWGs a1 a2) ⟨p, xs, rfl, k1, by rw [k2.length, asTs_len e, s2], ih ρ vh env σ H Q ws xs env' vh' R E e k2 q⟩
  | .sub o i, e, h => by
    cases e <;> first | (simp [chkT] at h; done) | skip
    simp only [chkT, Bool.and_eq_true] at h
    have i1 := (sndE o ok _ h.1.2).1
    have i2 := (sndE i ok _ h.2).1
    intro ρ vh env σ H Q w v env' vh' R E e V q
    obtain ⟨x, h1, e1, e2⟩ := bnd (show (evE (P.cfg n) o env vh).bind (fun x h1 => (evE (P.cfg n) i env h1).bind fun y h2 => (putW x y w h2).bind fun _ h3 => .ok env h3) = .ok env' vh' from e)
    obtain ⟨y, h2, e3, e4⟩ := bnd e2
    obtain ⟨_, h3, e5, e6⟩ := bnd e4
    cases e6
    refine WG.of (pg_sub' h.1.1 pWE pWE pWP) (snd2 i1 i2 R E e1 e3 fun ρ2 H2 ov iv F2 R2 V1 V2 => ?_)
    exact snd_put ok.units1 R2 V1 V2 (V.stay R F2) e5 fun ρ3 H3 F3 R3 => q _ _ _ (F2.trans F3) R3 ((E.stay R F2).stay R2 F3)
  | .att o f, e, h => by
    cases e <;> first | (simp [chkT] at h; done) | skip
    simp only [chkT, Bool.and_eq_true, decide_eq_true_eq] at h
    obtain ⟨rfl, h2⟩ := h
    have i1 := (sndE o ok _ h2).1
    intro ρ vh env σ H Q w v env' vh' R E e V q
    obtain ⟨x, h1, e1, e2⟩ := bnd (show (evE (P.cfg n) o env vh).bind (fun x h1 => (attW (P.cfg n).fok x f w h1).bind fun _ h2 => .ok env h2) = .ok env' vh' from e)
    obtain ⟨_, h2, e3, e4⟩ := bnd e2
    cases e4
    refine WG.of (pg_fld pWE) (i1 ρ vh env σ H _ x h1 R E e1 fun ρ1 H1 ov F1 R1 V1 => ?_)
    obtain ⟨a, C, dx, l, z1, z2, z3, z4, z5, z6⟩ := snd_att ok R1 V1 (V.stay R F1) e3
    exact ⟨a, C, dx, l, z1, z2, z3, z4, z5, z6 _ fun ρ3 H3 F3 R3 => q _ _ _ (F1.trans F3) R3 ((E.stay R F1).stay R1 F3)⟩
theorem sndTgs (ok : XOk P G n cl X) (hf : ∀ x, X.fn x = true) : ∀ {ts : List Tg} {es : List Expr}, chkTs X.N G X.env.scope ts es = true → SndTgs X cl (P.cfg n) ts es
  | [], es, h => by
    cases es with
    | cons _ _ => simp [chkTs] at h
    | nil =>
      intro ρ vh env σ H Q ws vs env' vh' R E e V q
      cases ws with
      | cons _ _ => simp [asTs] at e
      | nil =>
        cases e
        rw [V.nil_inv]
        exact WGs.of pgs_nil ⟨rfl, q _ _ _ Fr.rfl' R E⟩
  | t :: ts, es, h => by
    cases es with
    | nil => simp [chkTs] at h
    | cons e0 es =>
      simp only [chkTs, Bool.and_eq_true] at h
      have i1 := sndTg ok hf h.1.2
      have i2 := sndTgs ok hf h.2
      intro ρ vh env σ H Q ws vs env' vh' R E e V q
      cases ws with
      | nil => simp [asTs] at e
      | cons w ws =>
        obtain ⟨env1, h1, e1, e2⟩ := bnd (show (asT (P.cfg n) t w env vh).bind (fun e h1 => asTs (P.cfg n) ts ws e h1) = .ok env' vh' from e)
        obtain ⟨x, xs, rfl, v1, v2⟩ := V.uncons
        refine WGs.of (pgs_cons pWG pWGs (by rw [asg_cons h.1.1]; rfl)) ⟨x, xs, rfl, i1 ρ vh env σ H _ w x env1 h1 R E e1 v1 fun ρ1 H1 σ1 F1 R1 E1 => ?_⟩
        exact i2 ρ1 h1 env1 σ1 H1 _ ws xs env' vh' R1 E1 e2 (v2.stay R F1) fun ρ2 H2 σ2 F2 R2 E2 => q _ _ _ (F1.trans F2) R2 E2
end

/-! ### simple statements -/
theorem swaps_of {e : Expr} (h : notComp e = true) (t : Option Expr) (l : Nat) (env : PySem.Env) : swapsWith e t l env = pure false := by
  cases e <;> first | rfl | cases h
theorem snd_exS {me : Env → VH → R W} {e : Expr} {pos : Pos} (hc : notComp e = true) (he : SndE X cl me e) : SndS X cl (fun env h => (me env h).bind fun _ h1 => .ok (.nx, env) h1) (.Expr e pos) := by
  intro ρ vh env σ H D fl env' vh' R E e0 p
  obtain ⟨x, h1, e1, e2⟩ := bnd e0
  cases e2
  exact WS.of (ps_expr pWE (swaps_of hc _ _ _)) (he ρ vh env σ H _ x _ R E e1 fun ρ1 H1 v F1 R1 V1 => p _ _ _ F1 R1 (E.stay R F1))
theorem snd_ret0S {pos : Pos} : SndS X cl (fun env h => .ok (.rt .non, env) h) (.Return none pos) := by
  intro ρ vh env σ H D fl env' vh' R E e0 p
  cases e0
  exact WS.of ps_retN (p ρ H σ Fr.rfl' R E _ (vr_non.mpr rfl))
theorem snd_retS {me : Env → VH → R W} {e : Expr} {pos : Pos} (he : SndE X cl me e) : SndS X cl (fun env h => (me env h).bind fun x h1 => .ok (.rt x, env) h1) (.Return (some e) pos) := by
  intro ρ vh env σ H D fl env' vh' R E e0 p
  obtain ⟨x, h1, e1, e2⟩ := bnd e0
  cases e2
  exact WS.of (ps_ret pWE) (he ρ vh env σ H _ x _ R E e1 fun ρ1 H1 v F1 R1 V1 => p _ _ _ F1 R1 (E.stay R F1) _ V1)
theorem snd_ifS {mt : Env → VH → R Bool} {ma mb : Env → VH → R (Fl × Env)} {c : Expr} {a b : List Stmt} {pos : Pos} (hc : SndT X cl mt c) (ha : SndSs X cl ma a) (hb : SndSs X cl mb b) :
    SndS X cl (fun env h => (mt env h).bind fun k h1 => if k then ma env h1 else mb env h1) (.If c a b pos) := by
  intro ρ vh env σ H D fl env' vh' R E e0 p
  obtain ⟨k, h1, e1, e2⟩ := bnd e0
  refine WS.of (ps_if pWT pWSs pWSs) (hc ρ vh env σ H _ k h1 R E e1 fun ρ1 H1 F1 R1 => ?_)
  cases k with
  | true => exact ha ρ1 h1 env σ H1 D fl env' vh' R1 (E.stay R F1) e2 (p.from F1)
  | false => exact hb ρ1 h1 env σ H1 D fl env' vh' R1 (E.stay R F1) e2 (p.from F1)
theorem snd_nilSs : SndSs X cl (fun env h => .ok (.nx, env) h) [] := by
  intro ρ vh env σ H D fl env' vh' R E e0 p
  cases e0
  exact WSs.of pss_nil (p ρ H σ Fr.rfl' R E)
theorem snd_consSs {ms mr : Env → VH → R (Fl × Env)} {s : Stmt} {ss : List Stmt} (hs : SndS X cl ms s) (hr : SndSs X cl mr ss) :
    SndSs X cl (fun env h => (ms env h).bind fun r h1 => match r with | (.nx, e) => mr e h1 | r => .ok r h1) (s :: ss) := by
  intro ρ vh env σ H D fl env' vh' R E e0 p
  obtain ⟨⟨f1, env1⟩, h1, e1, e2⟩ := bnd e0
  refine WSs.of (pss_cons pWS pWSs) (hs ρ vh env σ H _ f1 env1 h1 R E e1 fun ρ1 H1 σ1 F1 R1 E1 => ?_)
  cases f1 with
  | nx => exact hr ρ1 h1 env1 σ1 H1 D fl env' vh' R1 E1 e2 (p.from F1)
  | rt w => cases e2; exact p _ _ _ F1 R1 E1
  | bk => cases e2; exact p _ _ _ F1 R1 E1
  | ct => cases e2; exact p _ _ _ F1 R1 E1
theorem snd_passS {pos : Pos} : SndS X cl (fun env h => .ok (.nx, env) h) (.Pass pos) := by
  intro ρ vh env σ H D fl env' vh' R E e0 p
  cases e0
  exact WS.of ps_pass (p ρ H σ Fr.rfl' R E)
theorem snd_brkS {pos : Pos} : SndS X cl (fun env h => .ok (.bk, env) h) (.Break pos) := by
  intro ρ vh env σ H D fl env' vh' R E e0 p
  cases e0
  exact WS.of ps_break (p ρ H σ Fr.rfl' R E)
theorem snd_contS {pos : Pos} : SndS X cl (fun env h => .ok (.ct, env) h) (.Continue pos) := by
  intro ρ vh env σ H D fl env' vh' R E e0 p
  cases e0
  exact WS.of ps_continue (p ρ H σ Fr.rfl' R E)

/-! ### op= -/
def WIp (X : Cx) (op : Operator) : TIp := fun x y H Q => ∀ (pins : List (Addr × Obj)) (s : Shared) (σ : L2.St) (v u : Value), Inv X pins σ H s → RelV x v → RelV y u → wpAny (model X.prog X.w) X.A (inplaceOp op v u) (EP X pins σ Q) X.xe s
theorem pWIp {op : Operator} : PIp X op (WIp X op) := fun pins s σ H x y v u Q I rx ry h => h pins s σ v u I rx ry
theorem WIp.of {op : Operator} {t : TIp} (h : PIp X op t) {x y : V} {H : Hp} {Q : VK} (q : t x y H Q) : WIp X op x y H Q := fun pins s σ v u I rx ry => h pins s σ H x y v u Q I rx ry q
theorem snd_aug {o : Bop} {o' : Operator} {ρ : List Addr} {vh vh' : VH} {H : Hp} {Q : VK} {w a b : W} {v u : V} (ho : bopB o o' = true) (R : Rel X.K cl ρ vh H) (ha : ValR X.K ρ H a v) (hb : ValR X.K ρ H b u) (e : augW o a b vh = .ok w vh') (p : Post X.K cl ρ H vh' w Q) : WIp X o' v u H Q := by
  unfold augW at e
  split at e
  · cases o' <;> first | (simp [bopB] at ho; done) | skip
    cases e
    rw [vr_int.mp ha, vr_int.mp hb]
    exact WIp.of ip_add ⟨_, _, rfl, rfl, p.at R (vr_int.mpr rfl)⟩
  · cases o' <;> first | (simp [bopB] at ho; done) | skip
    cases e
    rw [vr_int.mp ha, vr_int.mp hb]
    exact WIp.of ip_sub ⟨_, _, rfl, rfl, p.at R (vr_int.mpr rfl)⟩
  · cases e
theorem snd_augNS {me : Env → VH → R W} {i : Nat} {x : Str} {o : Bop} {o' : Operator} {e : Expr} {pos p2 : Pos} (ok : XOk P G n cl X) (hf : ∀ x, X.fn x = true) (hN : X.N[i]? = some x) (hl : locB X.env.scope x = true) (ho : bopB o o' = true) (he : SndE X cl me e) :
    SndS X cl (fun env h => (ok? (env i) h).bind fun x h0 => (me env h0).bind fun y h1 => (augW o x y h1).bind fun z h2 => .ok (.nx, setv env i z) h2) (.AugAssign (.Name x p2) o' e pos) := by
  intro ρ vh env σ H D fl env' vh' R E e0 p
  obtain ⟨x0, h0, e1, e2⟩ := bnd e0
  obtain ⟨y, h1, e3, e4⟩ := bnd e2
  obtain ⟨z, h2, e5, e6⟩ := bnd e4
  cases e6
  obtain ⟨e1', rfl⟩ := ok?_ok e1
  obtain ⟨v, hv1, hv2⟩ := E.2 i x0 e1'
  refine WS.of (ps_aug ok.nd hN (loc_of hl) pWE pWIp (.inl (hf _))) ⟨v, hv1, he ρ _ env σ H _ y h1 R E e3 fun ρ1 H1 u F1 R1 V1 => ?_⟩
  exact snd_aug ho R1 (hv2.stay R F1) V1 e5 fun ρ2 H2 zv F2 R2 V2 => p _ _ _ (F1.trans F2) R2 (((E.stay R F1).stay R1 F2).set (List.getElem?_eq_some_iff.mp hN).1 V2)
def WGt (X : Cx) : V → V → Hp → VK → Prop := fun o i H Q => ∀ (pins : List (Addr × Obj)) (s : Shared) (σ : L2.St) (ov iv : Value), Inv X pins σ H s → RelV o ov → RelV i iv → wpAny (model X.prog X.w) X.A (getItem ov iv) (EP X pins σ Q) X.xe s
theorem pWGt : PGet X (WGt X) := fun pins s σ H o i ov iv Q I r1 r2 h => h pins s σ ov iv I r1 r2
theorem get_list {p : Addr} {xs : List V} {i : Int} {z : V} {H : Hp} {Q : VK} (hq : SqL X.K H p xs) (he : atI xs i = some z) (q : Q z H) : WGt X (.ref p) (.int i) H Q := by
  intro pins s σ ov iv I rx ry
  cases rx
  obtain ⟨t, rfl⟩ := ry
  obtain ⟨its, r, pl, hz⟩ := I.list hq
  obtain ⟨j, h1, h2, h3, h4, h5⟩ := atI_get he
  obtain ⟨w, ew, rw'⟩ := r.get h2
  have hl := r.length
  have hn := line63
  have fin : EP X pins σ Q w s := ⟨z, H, I, rw', q⟩
  by_cases h0 : 0 ≤ i
  · have hj : i.toNat = j := by
      rw [seqIndex_of h0 h5] at h1
      exact Option.some.inj h1
    exact wpAny_getItem_list pl.isList h0 (by omega) (by rw [hj]; simpa using ew) fin
  · have hj : (i + (its.toArray.size : Int)).toNat = j := by
      rw [seqIndex_neg (by omega) h4] at h1
      rw [List.size_toArray, ← hl]
      exact Option.some.inj h1
    exact wpAny_getItem_list_neg pl.isList (by omega) (by rw [List.size_toArray] <;> omega) (by omega) (by rw [hj]; simpa using ew) fin
theorem snd_get (ok : XOk P G n cl X) {ρ : List Addr} {vh : VH} {H : Hp} {Q : VK} {w a b : W} {v u : V} (R : Rel X.K cl ρ vh H) (ha : ValR X.K ρ H a v) (hb : ValR X.K ρ H b u) (hr : ∃ r, a = .ref r) (e : ixW vh a b = some w) (q : ∀ z, ValR X.K ρ H w z → Q z H) : WGt X v u H Q := by
  obtain ⟨r, rfl⟩ := hr
  simp only [ixW] at e
  split at e
  · rename_i kvs hk
    obtain ⟨p, l, rfl, _, h3, h4⟩ := R.dct hk ha
    split at e
    · rename_i k hk2
      obtain ⟨z, hz, hzr⟩ := kvr_some h4 e
      intro pins s σ ov iv I rx ry
      cases rx
      rw [keyW_kV hk2 hb] at ry
      exact d_getItem ok.units1 I (by have := DGet.k (k := k) h3; rw [hz] at this; exact this) ry fun w' s' I' rw' => ⟨z, H, I', rw', q z hzr⟩
    · cases e
  · rename_i ws hk
    cases b <;> simp only at e <;> first | cases e | skip
    obtain ⟨p, xs, rfl, _, h3, h4⟩ := R.lst hk ha
    rw [vr_int.mp hb]
    obtain ⟨x, hx, hr⟩ := atI_of h4 e
    exact get_list (SqL.of h3) hx (q x hr)
  · cases e
theorem augS_of {i : Expr} (h : notSlice i = true) (ov iv new : Value) : augStore i ov iv new = (do holding [new, ov, iv] (setItem ov iv new); release [new, ov, iv] []; pure .next) := by
  cases i <;> first | rfl | cases h
theorem putW_ref {o i w : W} {h h' : VH} (e : putW o i w h = .ok () h') : ∃ r, o = .ref r := by
  cases o <;> first | (simp [putW] at e; done) | exact ⟨_, rfl⟩
theorem snd_augSS (ok : XOk P G n cl X) {mo mi me : Env → VH → R W} {o i e : Expr} {q : Bop} {q' : Operator} {tp pos : Pos} (hsl : notSlice i = true) (hq : bopB q q' = true) (ho : SndE X cl mo o) (hi : SndE X cl mi i) (he : SndE X cl me e) :
    SndS X cl (fun env h => (mo env h).bind fun x h1 => (mi env h1).bind fun y h2 => (ok? (ixW h2 x y) h2).bind fun old h3 =>
      (me env h3).bind fun w h4 => (augW q old w h4).bind fun z h5 => (putW x y z h5).bind fun _ h6 => .ok (.nx, env) h6) (.AugAssign (.Subscript o i tp) q' e pos) := by
  intro ρ vh env σ H D fl env' vh' R E e0 p
  obtain ⟨x, h1, e1, e2⟩ := bnd e0
  obtain ⟨y, h2, e3, e4⟩ := bnd e2
  obtain ⟨old, h3, e5, e6⟩ := bnd e4
  obtain ⟨w, h4, e7, e8⟩ := bnd e6
  obtain ⟨z, h5, e9, e10⟩ := bnd e8
  obtain ⟨_, h6, e11, e12⟩ := bnd e10
  cases e12
  obtain ⟨e5, rfl⟩ := ok?_ok e5
  refine WS.of (ps_augS pWE pWE pWGt pWE pWIp pWP (fun ov iv new => augS_of hsl _ _ _)) (snd2 ho hi R E e1 e3 fun ρ2 H2 ov iv F2 R2 V1 V2 => ?_)
  refine snd_get ok R2 V1 V2 (putW_ref e11) e5 fun oldv Vo => ?_
  refine he ρ2 _ env σ H2 _ w h4 R2 (E.stay R F2) e7 fun ρ3 H3 wv F3 R3 V3 => ?_
  refine snd_aug hq R3 (Vo.stay R2 F3) V3 e9 fun ρ4 H4 zv F4 R4 V4 => ?_
  refine snd_put ok.units1 R4 ((V1.stay R2 F3).stay R3 F4) ((V2.stay R2 F3).stay R3 F4) V4 e11 fun ρ5 H5 F5 R5 => ?_
  exact p _ _ _ (((F2.trans F3).trans F4).trans F5) R5 ((((E.stay R F2).stay R2 F3).stay R3 F4).stay R4 F5)

/-! ### loops -/
theorem attA_inv {fok : Nat → Str → Bool} {c r : Nat} {f : Str} {w : W} {h h' : VH} (e : attA fok c (.ref r) f w h = .ok () h') : attW fok (.ref r) f w h = .ok () h' ∧ ∃ fs, h[r]? = some (.ins c fs) := by
  unfold attA at e
  simp only at e
  split at e
  · rename_i c' fs hz
    split at e
    · rename_i hc
      cases e
      refine ⟨?_, fs, by rw [hz, hc.2.2]⟩
      unfold attW
      simp only [hz]
      rw [if_pos ⟨hc.1, hc.2.1⟩]
    · cases e
  · cases e
theorem snd_augAS (ok : XOk P G n cl X) {mo me : Env → VH → R W} {o e : Expr} {f : Str} {q : Bop} {q' : Operator} {tp pos : Pos} (hq : bopB q q' = true) (ho : SndE X cl mo o) (he : SndE X cl me e) :
    SndS X cl (fun env h => (mo env h).bind fun x h1 => match x with
      | .ref r => match h1[r]? with
        | some (.ins c fs) => (ok? (fget fs f) h1).bind fun old h2 => (me env h2).bind fun w h3 => (augW q old w h3).bind fun z h4 => (attA (P.cfg n).fok c x f z h4).bind fun _ h5 => .ok (.nx, env) h5
        | _ => .bad
      | _ => .bad) (.AugAssign (.Attribute o f tp) q' e pos) := by
  intro ρ vh env σ H D fl env' vh' R E e0 p
  obtain ⟨x, h1, e1, e2⟩ := bnd e0; clear e0
  refine WS.of (ps_fldaug pWE pWE (rd := WIp X q') (fun pins s σ H x y u v Q I rx ry h => h pins s σ u v I rx ry)) (ho ρ vh env σ H _ x h1 R E e1 fun ρ1 H1 ov F1 R1 V1 => ?_)
  split at e2
  · split at e2
    · rename_i r c fs hz
      obtain ⟨old, h2, e3, e4⟩ := bnd e2
      obtain ⟨e3', rfl⟩ := ok?_ok e3
      obtain ⟨w, h3, e5, e6⟩ := bnd e4
      obtain ⟨z, h4, e7, e8⟩ := bnd e6
      obtain ⟨_, h5, e9, e10⟩ := bnd e8
      cases e10
      obtain ⟨a, rfl, hr⟩ := vr_ref.mp V1
      obtain ⟨C, dx, l, hcl, g3, g4, g5⟩ := R1.at hr hz
      obtain ⟨⟨y, q1, q2⟩, p', q3, q4⟩ := kvr_fget g4 e3'
      have na := g5 p' q3
      rw [q4] at na
      refine ⟨a, C, dx, l, y, rfl, g3, ok.isC c C hcl, na, q1, he ρ1 _ env σ H1 _ w h3 R1 (E.stay R F1) e5 fun ρ2 H2 wv F2 R2 V2 => ?_⟩
      refine snd_aug hq R2 (q2.stay R1 F2) V2 e7 fun ρ3 H3 zv F3 R3 V3 => ?_
      obtain ⟨e9, fs', hz'⟩ := attA_inv e9
      obtain ⟨a', C', dx', l', z1, z2, z3, z4, z5, z6⟩ := snd_att ok R3 ((V1.stay R1 F2).stay R2 F3) V3 e9
      cases z1
      have F123 := F1.trans (F2.trans F3)
      have E3 := ((E.stay R F1).stay R1 F2).stay R2 F3
      have hC : C' = C := by
        obtain ⟨C2, dx2, l2, hcl2, k3, _, _⟩ := R3.at (F3.get (F2.get hr)) hz'
        rw [z2] at k3; cases k3
        rw [hcl] at hcl2; cases hcl2; rfl
      subst hC
      exact ⟨dx', l', z2, z5, z6 _ fun ρ4 H4 F4 R4 => p _ _ _ (F123.trans F4) R4 (E3.stay R3 F4)⟩
    · cases e2
  · cases e2
/-- o[lo:hi] = e -/
theorem snd_slSS {mo ml mh me : Env → VH → R W} {o lo hi e : Expr} {p2 p3 pos : Pos} (hc : notComp e = true) (he : SndE X cl me e) (ho : SndE X cl mo o) (hl : SndE X cl ml lo) (hh : SndE X cl mh hi) :
    SndS X cl (fun env h => (me env h).bind fun w h1 => (mo env h1).bind fun x h2 => (ml env h2).bind fun a h3 => (mh env h3).bind fun b h4 => match a, b with
      | .int i, .int j => (putS x i j w h4).bind fun _ h5 => .ok (.nx, env) h5
      | _, _ => .bad) (.Assign [.Subscript o (.Slice (some lo) (some hi) none p2) p3] e pos) := by
  intro ρ vh env σ H D fl env' vh' R E e0 p
  obtain ⟨w, h1, e1, e2⟩ := bnd e0; clear e0
  obtain ⟨x, h2, e3, e4⟩ := bnd e2; clear e2
  obtain ⟨a, h3, e5, e6⟩ := bnd e4; clear e4
  obtain ⟨b, h4, e7, e8⟩ := bnd e6; clear e6
  refine WS.of (ps_asg pWE (pg_slS pWE pWE pWE) (by cases e <;> first | rfl | cases hc) (by cases e <;> first | rfl | cases hc) (by rfl)) (he ρ vh env σ H _ w h1 R E e1 fun ρ1 H1 v F1 R1 V1 => ?_)
  refine ho ρ1 h1 env σ H1 _ x h2 R1 (E.stay R F1) e3 fun ρ2 H2 ov F2 R2 V2 => ?_
  refine hl ρ2 h2 env σ H2 _ a h3 R2 ((E.stay R F1).stay R1 F2) e5 fun ρ3 H3 lv F3 R3 V3 => ?_
  refine hh ρ3 h3 env σ H3 _ b h4 R3 (((E.stay R F1).stay R1 F2).stay R2 F3) e7 fun ρ4 H4 hv F4 R4 V4 => ?_
  split at e8
  · obtain ⟨_, h5, e9, e10⟩ := bnd e8
    cases e10
    unfold putS at e9
    split at e9
    · split at e9
      · cases e9
      · rename_i r q hne
        split at e9
        · rename_i xs ys hx hy
          split at e9
          · rename_i hcnd
            cases e9
            have V2' := (V2.stay R2 F3).stay R3 F4
            have V1' := ((V1.stay R1 F2).stay R2 F3).stay R3 F4
            obtain ⟨l, us, rfl, hr1, k1, k2⟩ := R4.lst hx V2'
            obtain ⟨m, zs, rfl, hr2, k3, k4⟩ := R4.lst hy V1'
            refine ⟨l, m, us, zs, _, _, rfl, vr_int.mp (V3.stay R3 F4), vr_int.mp V4, rfl, k1, k3, ?_, hcnd.1, hcnd.2.1, by rw [k2.length]; exact hcnd.2.2.1, by rw [k2.length, k4.length, ← line_eq]; exact hcnd.2.2.2, ?_⟩
            · rintro rfl; exact hne (R4.inj _ _ _ hr1 hr2)
            · refine p _ _ _ (((F1.trans F2).trans (F3.trans F4)).trans (Fr.write hr1)) (R4.write hr1 ⟨_, upd_same, ?_⟩) (((((E.stay R F1).stay R1 F2).stay R2 F3).stay R3 F4).stay R4 (Fr.write hr1))
              exact ValsR.stay R4 (Fr.write hr1) (((k2.take _).append k4).append (k2.drop _))
          · cases e9
        · cases e9
    · cases e9
  · cases e8
theorem snd_whS (hx : X.xe = fun _ _ => False) {mc : Env → VH → R Bool} {mb : Env → VH → R (Fl × Env)} {c : Expr} {b : List Stmt} {pos : Pos} {M : Nat} (hc : SndT X cl mc c) (hb : SndSs X cl mb b) : SndS X cl (fun env h => whRun mc mb M env h) (.While c b [] pos) := by
  intro ρ vh env σ H D fl env' vh' R E e0 p
  refine WS.of (ps_while (by rw [hx]; exact PassesOwn.never) pWT pWSs) ?_
  refine ⟨fun m σ1 H1 => ∃ ρ1 h1 env1, Fr ρ H ρ1 H1 ∧ Rel X.K cl ρ1 h1 H1 ∧ EnvR X.K X.N ρ1 H1 env1 σ1 ∧ whRun mc mb m env1 h1 = .ok (fl, env') vh', ⟨M, ρ, vh, env, Fr.rfl', R, E, e0⟩, ?_⟩
  rintro m σ1 H1 ⟨ρ1, h1, env1, F1, R1, E1, run⟩
  cases m with
  | zero => cases run
  | succ m =>
    obtain ⟨k, h2, e1, e2⟩ := bnd (show (mc env1 h1).bind _ = _ from run)
    refine hc ρ1 h1 env1 σ1 H1 _ k h2 R1 E1 e1 fun ρ2 H2 F2 R2 => ?_
    cases k with
    | false =>
      simp only [Bool.false_eq_true, if_false] at e2 ⊢
      cases e2
      exact p _ _ _ (F1.trans F2) R2 (E1.stay R1 F2)
    | true =>
      simp only [if_true] at e2 ⊢
      obtain ⟨⟨f1, env2⟩, h3, e3, e4⟩ := bnd e2
      refine ⟨_, fun _ _ h => h, hb ρ2 h2 env1 σ1 H2 _ f1 env2 h3 R2 (E1.stay R1 F2) e3 fun ρ3 H3 σ3 F3 R3 E3 => ?_⟩
      cases f1 with
      | nx => exact ⟨m, Nat.lt_succ_self m, ρ3, h3, env2, (F1.trans F2).trans F3, R3, E3, e4⟩
      | ct => exact ⟨m, Nat.lt_succ_self m, ρ3, h3, env2, (F1.trans F2).trans F3, R3, E3, e4⟩
      | bk => cases e4; exact p _ _ _ ((F1.trans F2).trans F3) R3 E3
      | rt w => cases e4; exact p _ _ _ ((F1.trans F2).trans F3) R3 E3
theorem snd_forS (ok : XOk P G n cl X) {t : TN} {mi : Env → VH → R Its} {mb : Env → VH → R (Fl × Env)} {tg it : Expr} {b : List Stmt} {pos : Pos} (hset : notSet it = true) (hi : SndI X cl mi tg it) (hg : SndG X cl t tg) (hb : SndSs X cl mb b) :
    SndS X cl (fun env h => (mi env h).bind fun its h2 => forRun its (fun w env h => match bindT t w env with | none => .bad | some e => mb e h) (itLen h2 its + 1) 0 env h2) (.For tg it b [] pos) := by
  intro ρ vh env σ H D fl env' vh' R E e0 p
  obtain ⟨its, h2, e1, e2⟩ := bnd e0
  refine WS.of (ps_for (by rw [ok.xe]; exact PassesOwn.never) ok.calm pWI pWG pWSs (fun x => notSet_of hset _ _)) ?_
  refine hi ρ vh env σ H _ its h2 R E e1 fun ρ1 H1 J F1 R1 I1 => ?_
  refine ⟨fun i m σ2 H2 => ∃ ρ2 hh env2, Fr ρ1 H1 ρ2 H2 ∧ Rel X.K cl ρ2 hh H2 ∧ EnvR X.K X.N ρ2 H2 env2 σ2 ∧ forRun its (fun w env h => match bindT t w env with | none => .bad | some e => mb e h) m i env2 hh = .ok (fl, env') vh', ⟨_, ρ1, h2, env, Fr.rfl', R1, E.stay R F1, e2⟩, ?_⟩
  rintro i m σ2 H2 ⟨ρ2, hh, env2, F2, R2, E2, run⟩
  cases m with
  | zero => cases run
  | succ m =>
    simp only [forRun] at run
    split at run
    · cases run
    · rename_i hit
      cases run
      exact .inl ⟨I1.stop ρ2 _ H2 i F2 R2 hit, p _ _ _ (F1.trans F2) R2 E2⟩
    · rename_i w hit
      refine .inr ⟨I1.go ρ2 _ H2 i w F2 R2 hit, _, fun _ _ h => h, fun x H3 y => ?_⟩
      obtain ⟨F3, R3, V3⟩ := I1.yld ρ2 _ H2 i w x H3 F2 R2 hit y
      obtain ⟨⟨f1, env4⟩, h4, e3, e4⟩ := bnd run
      split at e3
      · cases e3
      · rename_i env3 hbd
        refine hg ρ2 hh env2 σ2 H3 _ w x env3 R3 (E2.stay R2 F3) hbd V3 fun σ3 E3 _ => ?_
        refine hb ρ2 hh env3 σ3 H3 _ f1 env4 h4 R3 E3 e3 fun ρ5 H5 σ5 F5 R5 E5 => ?_
        have F := (F2.trans F3).trans F5
        cases f1 with
        | nx => exact ⟨m, Nat.lt_succ_self m, ρ5, h4, env4, F, R5, E5, e4⟩
        | ct => exact ⟨m, Nat.lt_succ_self m, ρ5, h4, env4, F, R5, E5, e4⟩
        | bk => cases e4; exact p _ _ _ (F1.trans F) R5 E5
        | rt w => cases e4; exact p _ _ _ (F1.trans F) R5 E5

/-! ### a store -/
theorem blockKind_of {env : PySem.Env} (h : env.scope.kind = .function) : env.blockKind = .function := by
  unfold PySem.Env.blockKind; rw [h]; rfl
theorem swp_of {env : PySem.Env} (h : env.scope.kind = .function) {ts vs : List Expr} {k k2 : Nat} {p p2 : Pos} {r : Option (List Str)} (e : swp env.scope ts vs = some r) : swappedStores [.Tuple ts k p] (.Tuple vs k2 p2) env = pure r := by
  have hb := blockKind_of h
  have hko : ∀ x, env.kindOf x = env.scope.names.lookup x := fun _ => rfl
  unfold swp at e
  unfold swappedStores
  simp only [hb, hko]
  have hbk : (ScopeKind.function != ScopeKind.function) = false := by decide
  rw [hbk, Bool.or_false]
  split at e
  · rename_i hc
    cases e
    rw [if_pos hc]
  · rename_i hc
    rw [if_neg hc]
    split at e
    · rename_i hc2
      cases e
      exact if_pos hc2
    · rename_i hc2
      refine (if_neg hc2).trans ?_
      simp only at e
      split at e
      · rename_i hc3
        cases e
        exact if_pos hc3
      · rename_i hc3
        refine (if_neg hc3).trans ?_
        split at e
        · rename_i hc4
          cases e
          exact if_pos hc4
        · rename_i hc4
          refine (if_neg hc4).trans ?_
          split at e
          · cases e
          · rename_i hc5
            cases e
            exact if_neg hc5

theorem lc_parts (ok : XOk P G n cl X) {elt : E} {own : List Nat} {tg : TN} {k : IK} {it cs : List E} {elt' tg' it' : Expr} {ifs' : List Expr} {a : Int} {scope : Scope} {pos : Pos}
    (h : chkE X.N G X.env.scope (.lc elt own tg k it cs) (.ListComp elt' [⟨tg', it', ifs', a⟩] scope pos) = true) :
    a = 0 ∧ BlkOk X.N X.env.scope scope (own.map fun i => ((X.N[i]?).getD Str.empty, i)) ∧ notSet it' = true ∧ SndI X cl (fun env vh => (evEs (P.cfg n) it env vh).bind fun ws h1 => itsOf k ws h1) tg' it' ∧
      (Blk X scope fun Y => SndG Y cl tg tg') ∧ tnIn own tg = true ∧ SndTs X cl scope (evTs (P.cfg n) cs) ifs' ∧ (Blk X scope fun Y => SndE Y cl (evE (P.cfg n) elt) elt') := by
  simp only [chkE, Bool.and_eq_true, decide_eq_true_eq] at h
  obtain ⟨⟨⟨⟨⟨⟨⟨⟨rfl, h1⟩, h2⟩, h3⟩, h4⟩, h5⟩, h6⟩, h7⟩, h8⟩ := h
  refine ⟨rfl, blkOk_by h3, h2, its_of ok (by
        cases hit : itArgs X.env.scope k it' with
        | none => rw [hit] at h5; cases h5
        | some es =>
          rw [hit] at h5
          exact sndEs it ok es h5), fun s H C clo fp => sndTN (P := P) (G := G) (n := n) (X := X.blk s H scope (compEnvC scope clo C X.env) fp) (ok.blk s H scope _ fp) locOk_blk h4, h1, ?_,
        fun s H C clo fp => (sndE elt (X := X.blk s H scope (compEnvC scope clo C X.env) fp) (ok.blk s H scope _ fp) elt' h8).1⟩
  match cs, ifs', h6, h7 with
  | [], [], _, _ => exact snd_ts0
  | [c], [c'], h6, _ =>
    simp only [chkEs, Bool.and_true, Bool.and_eq_true] at h6
    refine snd_ts1 fun s H C clo fp => ?_
    have ic := (sndE c (X := X.blk s H scope (compEnvC scope clo C X.env) fp) (ok.blk s H scope _ fp) c' h6.2).2
    refine SndT.congr (fun env vh => ?_) ic
    show ((evE _ c env vh).bind fun x h1 => ok? (truW h1 x) h1) = (evE _ c env vh).bind fun x h1 => (ok? (truW h1 x) h1).bind fun k h2 => if k then .ok true h2 else .ok false h2
    cases evE (P.cfg n) c env vh with
    | bad => rfl
    | ok x h1 =>
      show ok? (truW h1 x) h1 = (ok? (truW h1 x) h1).bind _
      cases truW h1 x with
      | none => rfl
      | some k => cases k <;> rfl
  | [], _ :: _, h6, _ => simp [chkEs] at h6
  | [_], [], h6, _ => simp [chkEs] at h6
  | [_], _ :: _ :: _, h6, _ => simp [chkEs] at h6
  | _ :: _ :: _, _, _, h7 => simp at h7
abbrev setM (C : Cfg) (t : Tg) (e : E) : Env → VH → R (Fl × Env) := fun env h => (evE C e env h).bind fun x h1 => (asT C t x env h1).bind fun env' h2 => .ok (.nx, env') h2
/-- by the value, then the store -/
theorem set_asg (ok : XOk P G n cl X) (hf : ∀ x, X.fn x = true) {t : Tg} {e : E} {t' e' : Expr} {pos : Pos} (hst : notStar t' = true) (he : SndE X cl (evE (P.cfg n) e) e') (ht : SndTg X cl (P.cfg n) t t')
    (hs : swapsWithSole [t'] e' pos.line X.env = pure false) (hw : swappedStores [t'] e' X.env = pure none) : SndS X cl (setM (P.cfg n) t e) (.Assign [t'] e' pos) := by
  intro ρ vh env σ H D fl env' vh' R E e0 p
  obtain ⟨x, h1, e1, e2⟩ := bnd e0
  obtain ⟨env1, h2, e3, e4⟩ := bnd e2
  cases e4
  refine WS.of (ps_asg pWE pWG hs hw (by rw [asg_cons hst]; rfl)) (he ρ vh env σ H _ x h1 R E e1 fun ρ1 H1 v F1 R1 V1 => ?_)
  exact ht ρ1 h1 env σ H1 _ x v env' _ R1 (E.stay R F1) e3 V1 fun ρ2 H2 σ2 F2 R2 E2 => p _ _ _ (F1.trans F2) R2 E2
theorem set_name (ok : XOk P G n cl X) (hf : ∀ x, X.fn x = true) {i : Nat} {y : Str} {e : E} {e' : Expr} {py pos : Pos} (hN : X.N[i]? = some y) (hl : locB X.env.scope y = true) (he : SndE X cl (evE (P.cfg n) e) e')
    (hs : swapsWith e' (some (.Name y py)) pos.line X.env = pure false) : SndS X cl (setM (P.cfg n) (.nm i) e) (.Assign [.Name y py] e' pos) := by
  intro ρ vh env σ H D fl env' vh' R E e0 p
  obtain ⟨x, h1, e1, e2⟩ := bnd e0
  obtain ⟨env1, h2, e3, e4⟩ := bnd e2
  cases e4; cases e3
  exact WS.of (ps_set ok.nd hN (loc_of hl) pWE hs (.inl (hf _))) (he ρ vh env σ H _ x _ R E e1 fun ρ1 H1 v F1 R1 V1 => p _ _ _ F1 R1 ((E.stay R F1).set (List.getElem?_eq_some_iff.mp hN).1 V1))
theorem notComp_of {e : Expr} (h1 : ∀ a b c d, e ≠ .ListComp a b c d) (h2 : ∀ a b c d, e ≠ .SetComp a b c d) (h3 : ∀ a b c d f, e ≠ .DictComp a b c d f) : notComp e = true := by
  cases e <;> first | rfl | exact absurd rfl (h1 _ _ _ _) | exact absurd rfl (h2 _ _ _ _) | exact absurd rfl (h3 _ _ _ _ _)
theorem set_lc (ok : XOk P G n cl X) (hf : ∀ x, X.fn x = true) (hk : X.env.scope.kind = .function) {i : Nat} {y : Str} {e : E} {elt' : Expr} {gens : List Comprehension} {scope : Scope} {py pos p2 : Pos} (hN : X.N[i]? = some y) (hl : locB X.env.scope y = true)
    (hc : chkE X.N G X.env.scope e (.ListComp elt' gens scope p2) = true) : SndS X cl (setM (P.cfg n) (.nm i) e) (.Assign [.Name y py] (.ListComp elt' gens scope p2) pos) := by
  have he := (sndE e ok _ hc).1
  have hsw : swapsWith (.ListComp elt' gens scope p2) (some (.Name y py)) pos.line X.env = pure (X.env.blockKind == .function && X.env.kindOf y == some .local && py.line == p2.line && !(scope.names.any fun (n, k) => n == y && (k == .local || k == .cell))) := rfl
  cases hb : (X.env.blockKind == .function && X.env.kindOf y == some .local && py.line == p2.line && !(scope.names.any fun (n, k) => n == y && (k == .local || k == .cell))) with
  | false =>
    rw [hb] at hsw
    exact set_name ok hf hN hl he hsw
  | true =>
    rw [hb] at hsw
    have hloc : X.env.scope.names.lookup y = some .local := by
      simp only [Bool.and_eq_true] at hb
      exact beq_iff_eq.mp hb.1.1.2
    cases e <;> first | (simp [chkE] at hc; done) | skip
    · simp [chkE, cstB] at hc
    rename_i elt own tg k it cs
    match gens, hc with
    | [⟨tg', it', ifs', a⟩], hc =>
      obtain ⟨rfl, hblk, hset, hi, hg, hin, ⟨tt, pt, qt⟩, hE⟩ := lc_parts ok hc
      intro ρ vh env σ H D fl env' vh' R E e0 p
      obtain ⟨x, h1, e1, e2⟩ := bnd e0
      obtain ⟨env1, h2, e3, e4⟩ := bnd e2
      cases e4; cases e3
      refine WS.of (ps_setLc ok.calm ok.nd hN hloc hsw pWI hblk pbTG pt pbTE (fun x => notSet_of hset _ _)) ?_
      have hown : (own.map fun i => ((X.N[i]?).getD Str.empty, i)).map (·.2) = own := by simp [List.map_map, Function.comp_def]
      rw [hown]
      refine lc_read (ifs := ifs') hi hg hin qt hE R E (w := x) (vh' := vh') ?_ fun ρ1 H1 v F1 R1 V1 => p _ _ _ F1 R1 ((E.stay R F1).set (List.getElem?_eq_some_iff.mp hN).1 V1)
      rw [← e1]
      show ((evEs _ it env vh).bind fun ws h1 => itsOf k ws h1).bind _ = (evEs _ it env vh).bind _
      cases evEs (P.cfg n) it env vh <;> rfl
    | [], hc => exact absurd hc (by simp [chkE])
    | _ :: _ :: _, hc => exact absurd hc (by simp [chkE])
theorem nodup_ne {N : List Str} {i j : Nat} {x y : Str} (hi : N[i]? = some x) (hj : N[j]? = some y) (h : x ≠ y) : i ≠ j := fun e => by
  subst e; rw [hi] at hj; cases hj; exact h rfl
theorem set_par2 (ok : XOk P G n cl X) {i j : Nat} {x y : Str} {a b : E} {a' b' : Expr} {px py pt pos : Pos} {kt k2 : Nat} {p2 : Pos} (hi : X.N[i]? = some x) (hj : X.N[j]? = some y) (hx : X.env.scope.names.lookup x = some .local) (hy : X.env.scope.names.lookup y = some .local) (hne : x ≠ y)
    (hw : swappedStores [.Tuple [.Name x px, .Name y py] kt pt] (.Tuple [a', b'] k2 p2) X.env = pure (some [x, y])) (ha : AllS X cl (P.cfg n) [a, b] [a', b']) :
    SndS X cl (setM (P.cfg n) (.tp [.nm i, .nm j]) (.tup [a, b])) (.Assign [.Tuple [.Name x px, .Name y py] kt pt] (.Tuple [a', b'] k2 p2) pos) := by
  intro ρ vh env σ H D fl env' vh' R E e0 p
  obtain ⟨w, h1, e1, e2⟩ := bnd e0
  obtain ⟨env1, h2, e3, e4⟩ := bnd e2
  cases e4
  obtain ⟨ws, h3, e5, e6⟩ := bnd (show (evEs (P.cfg n) [a, b] env vh).bind (fun ws h1 => if ws.length ≤ line then .ok (.tup ws) h1 else .bad) = .ok w h1 from e1)
  split at e6
  · cases e6
    have hl : ws.length = 2 := evEs_len e5
    match ws, hl with
    | [w1, w2], _ =>
      cases e3
      refine WS.of (ps_par ok.calm ok.nd hi hj (nodup_ne hi hj hne) hx hy pWA hw rfl) (ha.a.1 ρ vh env σ H _ _ _ R E e5 fun ρ1 H1 vs F1 R1 V1 => ?_)
      obtain ⟨v1, r1, rfl, q1, q2⟩ := V1.uncons
      obtain ⟨v2, r2, rfl, q3, q4⟩ := q2.uncons
      cases q4.nil_inv
      exact ⟨v1, v2, rfl, p _ _ _ F1 R1 (((E.stay R F1).set (List.getElem?_eq_some_iff.mp hi).1 q1).set (List.getElem?_eq_some_iff.mp hj).1 q3)⟩
  · cases e6
theorem set_par3 (ok : XOk P G n cl X) {i j l : Nat} {x y z : Str} {a b c : E} {a' b' c' : Expr} {px py pz pt pos : Pos} {kt k2 : Nat} {p2 : Pos} (hi : X.N[i]? = some x) (hj : X.N[j]? = some y) (hl' : X.N[l]? = some z) (hx : X.env.scope.names.lookup x = some .local) (hy : X.env.scope.names.lookup y = some .local)
    (hz : X.env.scope.names.lookup z = some .local) (h1' : x ≠ y) (h2' : x ≠ z) (h3' : y ≠ z)
    (hw : swappedStores [.Tuple [.Name x px, .Name y py, .Name z pz] kt pt] (.Tuple [a', b', c'] k2 p2) X.env = pure (some [x, y, z])) (ha : AllS X cl (P.cfg n) [a, b, c] [a', b', c']) :
    SndS X cl (setM (P.cfg n) (.tp [.nm i, .nm j, .nm l]) (.tup [a, b, c])) (.Assign [.Tuple [.Name x px, .Name y py, .Name z pz] kt pt] (.Tuple [a', b', c'] k2 p2) pos) := by
  intro ρ vh env σ H D fl env' vh' R E e0 p
  obtain ⟨w, h1, e1, e2⟩ := bnd e0
  obtain ⟨env1, h2, e3, e4⟩ := bnd e2
  cases e4
  obtain ⟨ws, h3, e5, e6⟩ := bnd (show (evEs (P.cfg n) [a, b, c] env vh).bind (fun ws h1 => if ws.length ≤ line then .ok (.tup ws) h1 else .bad) = .ok w h1 from e1)
  split at e6
  · cases e6
    have hl : ws.length = 3 := evEs_len e5
    match ws, hl with
    | [w1, w2, w3], _ =>
      cases e3
      refine WS.of (ps_par3 ok.calm ok.nd hi hj hl' (nodup_ne hi hj h1') (nodup_ne hi hl' h2') (nodup_ne hj hl' h3') hx hy hz pWA hw rfl) (ha.a.1 ρ vh env σ H _ _ _ R E e5 fun ρ1 H1 vs F1 R1 V1 => ?_)
      obtain ⟨v1, r1, rfl, q1, q2⟩ := V1.uncons
      obtain ⟨v2, r2, rfl, q3, q4⟩ := q2.uncons
      obtain ⟨v3, r3, rfl, q5, q6⟩ := q4.uncons
      cases q6.nil_inv
      exact ⟨v1, v2, v3, rfl, p _ _ _ F1 R1 ((((E.stay R F1).set (List.getElem?_eq_some_iff.mp hi).1 q1).set (List.getElem?_eq_some_iff.mp hj).1 q3).set (List.getElem?_eq_some_iff.mp hl').1 q5)⟩
  · cases e6
end
end Nw

set_option Elab.async false
set_option linter.all false
set_option maxRecDepth 100000
set_option maxHeartbeats 4000000
/-! Nw, part J: all statements; defs; the law. -/
namespace Nw
open PySem PySem.Spec PyProof.Rows L2
section
variable {P : Prog} {G : GN} {n : Nat} {cl : Nat → Option Addr} {X : Cx}
theorem SndS.congr {m m' : Env → VH → R (Fl × Env)} {st : Stmt} (h : ∀ env vh, m env vh = m' env vh) (q : SndS X cl m st) : SndS X cl m' st := fun ρ vh env σ H D fl env' vh' R E e1 p => q ρ vh env σ H D fl env' vh' R E ((h _ _).trans e1) p
theorem sndSet (ok : XOk P G n cl X) (hf : ∀ x, X.fn x = true) (hk : X.env.scope.kind = .function) {t : Tg} {e : E} {t' e' : Expr} {pos : Pos} (hst : notStar t' = true) (hs : setB X.env.scope t' e' = true) (he : chkE X.N G X.env.scope e e' = true) (ht : chkT X.N G X.env.scope t t' = true) :
    SndS X cl (setM (P.cfg n) t e) (.Assign [t'] e' pos) := by
  have i1 := (sndE e ok _ he).1
  have i2 := sndTg ok hf ht
  cases t' <;> first | (cases t <;> simp [chkT] at ht; done) | skip
  · -- a field
    refine set_asg ok hf hst i1 i2 ?_ ?_
    · cases e' <;> first | rfl | (simp [setB] at hs)
    · cases e' <;> rfl
  · -- a subscript
    refine set_asg ok hf hst i1 i2 ?_ ?_
    · cases e' <;> first | rfl | (simp [setB] at hs)
    · cases e' <;> rfl
  · -- a name
    rename_i y py
    cases t <;> first | (simp [chkT] at ht; done) | skip
    simp only [chkT, Bool.and_eq_true, decide_eq_true_eq] at ht
    cases e' <;> first | (refine set_name ok hf ht.1 ht.2 i1 (swaps_of rfl _ _ _); done) | (simp [setB] at hs; done) | skip
    exact set_lc ok hf hk ht.1 ht.2 he
  · -- names in brackets
    rename_i ts kt pt
    cases e' <;> first | (refine set_asg ok hf hst i1 i2 rfl rfl; done) | (simp [setB] at hs; done) | skip
    rename_i vs k2 p2
    have hs : tupB X.env.scope ts vs = true := hs
    unfold tupB at hs
    split at hs
    · rename_i h
      exact set_asg ok hf hst i1 i2 rfl (swp_of hk h)
    · rename_i x y h
      have hw := swp_of (k := kt) (k2 := k2) (p := pt) (p2 := p2) hk h
      unfold par2B at hs
      split at hs
      · simp only [Bool.and_eq_true, decide_eq_true_eq] at hs
        obtain ⟨⟨⟨⟨rfl, rfl⟩, hx⟩, hy⟩, hne⟩ := hs
        cases t <;> first | (simp [chkT] at ht; done) | skip
        rename_i tts
        match tts, ht with
        | [.nm i, .nm j], ht =>
          simp only [chkT, chkTs, Bool.and_eq_true, decide_eq_true_eq, Bool.and_true] at ht
          cases e <;> first | (simp [chkE] at he; done) | skip
          · simp [chkE, cstB] at he
          rename_i es
          simp only [chkE] at he
          have ih := sndEs es ok _ he
          match es, ih with
          | [a, b], ih => exact set_par2 ok ht.1.2.1 ht.2.2.1 hx hy hne hw ih
          | [], ih => exact ih.elim
          | [_], ih => exact ih.2.2.2.elim
          | _ :: _ :: _ :: _, ih => exact ih.2.2.2.2.2.2.elim
        | [], ht => simp [chkT, chkTs] at ht
        | [_], ht => simp [chkT, chkTs] at ht
        | _ :: _ :: _ :: _, ht => simp [chkT, chkTs] at ht
        | [.tp _, _], ht => simp [chkT, chkTs] at ht
        | [.sub _ _, _], ht => simp [chkT, chkTs] at ht
        | [.att _ _, _], ht => simp [chkT, chkTs] at ht
        | [.nm _, .tp _], ht => simp [chkT, chkTs] at ht
        | [.nm _, .sub _ _], ht => simp [chkT, chkTs] at ht
        | [.nm _, .att _ _], ht => simp [chkT, chkTs] at ht
      · cases hs
    · rename_i x y z h
      have hw := swp_of (k := kt) (k2 := k2) (p := pt) (p2 := p2) hk h
      unfold par3B at hs
      split at hs
      · simp only [Bool.and_eq_true, decide_eq_true_eq] at hs
        obtain ⟨⟨⟨⟨⟨⟨⟨⟨rfl, rfl⟩, rfl⟩, hx⟩, hy⟩, hz⟩, h1⟩, h2⟩, h3⟩ := hs
        cases t <;> first | (simp [chkT] at ht; done) | skip
        rename_i tts
        match tts, ht with
        | [.nm i, .nm j, .nm l], ht =>
          simp only [chkT, chkTs, Bool.and_eq_true, decide_eq_true_eq, Bool.and_true] at ht
          cases e <;> first | (simp [chkE] at he; done) | skip
          · simp [chkE, cstB] at he
          rename_i es
          simp only [chkE] at he
          have ih := sndEs es ok _ he
          match es, ih with
          | [a, b, c], ih => exact set_par3 ok ht.1.2.1 ht.2.1.2.1 ht.2.2.2.1 hx hy hz h1 h2 h3 hw ih
          | [], ih => exact ih.elim
          | [_], ih => exact ih.2.2.2.elim
          | [_, _], ih => exact ih.2.2.2.2.2.2.elim
          | _ :: _ :: _ :: _ :: _, ih => exact ih.2.2.2.2.2.2.2.2.2.elim
        | [], ht => simp [chkT, chkTs] at ht
        | [_], ht => simp [chkT, chkTs] at ht
        | [_, _], ht => simp [chkT, chkTs] at ht
        | _ :: _ :: _ :: _ :: _, ht => simp [chkT, chkTs] at ht
        | [.tp _, _, _], ht => simp [chkT, chkTs] at ht
        | [.sub _ _, _, _], ht => simp [chkT, chkTs] at ht
        | [.att _ _, _, _], ht => simp [chkT, chkTs] at ht
        | [.nm _, .tp _, _], ht => simp [chkT, chkTs] at ht
        | [.nm _, .sub _ _, _], ht => simp [chkT, chkTs] at ht
        | [.nm _, .att _ _, _], ht => simp [chkT, chkTs] at ht
        | [.nm _, .nm _, .tp _], ht => simp [chkT, chkTs] at ht
        | [.nm _, .nm _, .sub _ _], ht => simp [chkT, chkTs] at ht
        | [.nm _, .nm _, .att _ _], ht => simp [chkT, chkTs] at ht
      · cases hs
    · cases hs
mutual
theorem sndS (ok : XOk P G n cl X) (hf : ∀ x, X.fn x = true) (hk : X.env.scope.kind = .function) : ∀ (a : Sm) (s : Stmt), chkS X.N G X.env.scope a s = true → SndS X cl (evS (P.cfg n) a) s
  | .ex e, s, h => by
    cases s <;> first | (simp [chkS] at h; done) | skip
    simp only [chkS, Bool.and_eq_true] at h
    exact snd_exS h.1 (sndE e ok _ h.2).1
  | .set t e, s, h => by
    cases s <;> first | (simp [chkS] at h; done) | skip
    rename_i tgs v pos
    match tgs, h with
    | [t'], h =>
      simp only [chkS, Bool.and_eq_true] at h
      exact sndSet ok hf hk h.1.1.1 h.1.1.2 h.1.2 h.2
    | [], h => exact absurd h (by simp [chkS])
    | _ :: _ :: _, h => exact absurd h (by simp [chkS])
  | .augN i o e, s, h => by
    cases s <;> first | (simp [chkS] at h; done) | skip
    rename_i tg op v pos
    cases tg <;> first | (simp [chkS] at h; done) | skip
    simp only [chkS, Bool.and_eq_true, decide_eq_true_eq] at h
    exact snd_augNS ok hf h.1.1.1 h.1.1.2 h.1.2 (sndE e ok _ h.2).1
  | .augS o i p e, s, h => by
    cases s <;> first | (simp [chkS] at h; done) | skip
    rename_i tg op v pos
    cases tg <;> first | (simp [chkS] at h; done) | skip
    simp only [chkS, Bool.and_eq_true] at h
    exact snd_augSS ok h.1.1.1.1 h.1.1.1.2 (sndE o ok _ h.1.1.2).1 (sndE i ok _ h.1.2).1 (sndE e ok _ h.2).1
  | .augA o f p e, s, h => by
    cases s <;> first | (simp [chkS] at h; done) | skip
    rename_i tg op v pos
    cases tg <;> first | (simp [chkS] at h; done) | skip
    simp only [chkS, Bool.and_eq_true, decide_eq_true_eq] at h
    obtain ⟨⟨⟨rfl, h2⟩, h3⟩, h4⟩ := h
    exact snd_augAS ok h2 (sndE o ok _ h3).1 (sndE e ok _ h4).1
  | .bad, s, h => fun ρ vh env σ H D fl env' vh' R E e p => by cases e
  | .slS o lo hi e, s, h => by
    simp only [chkS] at h
    split at h
    · rename_i o' lo' hi' e' hs
      obtain ⟨p2, p3, pos, rfl⟩ := slsOf_inv hs
      simp only [Bool.and_eq_true] at h
      exact snd_slSS h.1.1.1.1 (sndE e ok _ h.1.1.1.2).1 (sndE o ok _ h.1.1.2).1 (sndE lo ok _ h.1.2).1 (sndE hi ok _ h.2).1
    · cases h
  | .ret none, s, h => by
    cases s <;> first | (simp [chkS] at h; done) | skip
    rename_i v pos
    cases v with
    | none => exact snd_ret0S
    | some _ => simp [chkS] at h
  | .ret (some e), s, h => by
    cases s <;> first | (simp [chkS] at h; done) | skip
    rename_i v pos
    cases v with
    | none => simp [chkS] at h
    | some e' =>
      simp only [chkS] at h
      exact snd_retS (sndE e ok _ h).1
  | .ife c a b, s, h => by
    cases s <;> first | (simp [chkS] at h; done) | skip
    simp only [chkS, Bool.and_eq_true] at h
    exact snd_ifS (sndE c ok _ h.1.1).2 (sndSs ok hf hk a _ h.1.2) (sndSs ok hf hk b _ h.2)
  | .whl c b, s, h => by
    cases s <;> first | (simp [chkS] at h; done) | skip
    rename_i c' b' o' pos
    cases o' <;> first | (simp [chkS] at h; done) | skip
    simp only [chkS, Bool.and_eq_true] at h
    exact snd_whS ok.xe (sndE c ok _ h.1).2 (sndSs ok hf hk b _ h.2)
  | .for t k it b, s, h => by
    cases s <;> first | (simp [chkS] at h; done) | skip
    rename_i t' it' b' o' pos
    cases o' <;> first | (simp [chkS] at h; done) | skip
    simp only [chkS, Bool.and_eq_true] at h
    obtain ⟨⟨⟨h0, h1⟩, h2⟩, h3⟩ := h
    have hi : SndI X cl (fun env vh => (evEs (P.cfg n) it env vh).bind fun ws h1 => itsOf k ws h1) t' it' := its_of ok (by
        cases hit : itArgs X.env.scope k it' with
        | none => rw [hit] at h2; cases h2
        | some es =>
          rw [hit] at h2
          exact sndEs it ok es h2)
    have hl : LocOk X (locB X.env.scope) := fun x hx => ⟨loc_of hx, .inl (hf x)⟩
    refine .congr (fun env vh => ?_) (snd_forS ok h0 hi (sndTN ok hl h1) (sndSs ok hf hk b _ h3))
    show ((evEs _ it env vh).bind fun ws h1 => itsOf k ws h1).bind _ = (evEs _ it env vh).bind _
    cases evEs (P.cfg n) it env vh <;> rfl
  | .pass, s, h => by
    cases s <;> first | (simp [chkS] at h; done) | skip
    exact snd_passS
  | .brk, s, h => by
    cases s <;> first | (simp [chkS] at h; done) | skip
    exact snd_brkS
  | .cont, s, h => by
    cases s <;> first | (simp [chkS] at h; done) | skip
    exact snd_contS
theorem sndSs (ok : XOk P G n cl X) (hf : ∀ x, X.fn x = true) (hk : X.env.scope.kind = .function) : ∀ (a : List Sm) (s : List Stmt), chkSs X.N G X.env.scope a s = true → SndSs X cl (evSs (P.cfg n) a) s
  | [], s, h => by
    cases s with
    | nil => exact snd_nilSs
    | cons _ _ => simp [chkSs] at h
  | a :: as, s, h => by
    cases s with
    | nil => simp [chkSs] at h
    | cons s ss =>
      simp only [chkSs, Bool.and_eq_true] at h
      exact snd_consSs (sndS ok hf hk a s h.1) (sndSs ok hf hk as ss h.2)
end
end

/-! ### defs -/
/-- a def of the top, or a method: its class and name -/
structure DefI where
  name : Str
  own : Option (Nat × Str) := none
  q : Str
  st : Stmt
  N : List Str
  ps : List Str
def DefI.g (d : DefI) : Option Str := match d.own with | none => some d.name | some _ => none
def scopeB (N ps : List Str) (sc : Scope) : Bool :=
  (match sc.kind with | .function => true | _ => false) && !sc.isCoroutine && !sc.isGenerator && decide N.Nodup && decide (N.take ps.length = ps) && ps.all (locB sc) && sc.names.all fun y => decide (y.2 ≠ .free)
theorem scope_of {N ps : List Str} {sc : Scope} (h : scopeB N ps sc = true) : FnScope N ps sc := by
  unfold scopeB at h
  simp only [Bool.and_eq_true, Bool.not_eq_true', decide_eq_true_eq, List.all_eq_true] at h
  obtain ⟨⟨⟨⟨⟨⟨h1, h2⟩, h3⟩, h4⟩, h5⟩, h6⟩, h7⟩ := h
  refine ⟨?_, h2, h3, h4, h5, fun x hx => loc_of (h6 x hx), fun y hy => h7 y hy⟩
  split at h1
  · assumption
  · cases h1
/-- the text of a def is the evaluator's def -/
def defB (G : GN) (d : DefI) (f : Fn) : Bool := scopeB d.N d.ps (defScope d.st) && decide (f.ps = d.ps.length) && chkSs d.N G (defScope d.st) f.body (defBody d.st)
def defsB (G : GN) : List DefI → List Fn → Bool
  | [], [] => true
  | d :: ds, f :: fs => defB G d f && defsB G ds fs
  | _, _ => false
theorem defsB_at {G : GN} : ∀ {ds : List DefI} {fs : List Fn} {i : Nat} {d : DefI}, defsB G ds fs = true → ds[i]? = some d → ∃ f, fs[i]? = some f ∧ defB G d f = true
  | [], _, i, d, _, h => by simp at h
  | d :: ds, f :: fs, 0, _, h, e => by
    simp at e; subst e
    simp only [defsB, Bool.and_eq_true] at h
    exact ⟨f, rfl, h.1⟩
  | d :: ds, f :: fs, i + 1, _, h, e => by
    simp only [defsB, Bool.and_eq_true] at h
    obtain ⟨g, h1, h2⟩ := defsB_at h.2 (by simpa using e)
    exact ⟨g, by simpa using h1, h2⟩
  | _ :: _, [], _, _, h, _ => by simp [defsB] at h
/-- methods: class, name, place of the def -/
abbrev Mths := List (Nat × Str × Nat)
def mget : Mths → Nat → Str → Option Nat
  | [], _, _ => none
  | (c, m, f) :: r, c', m' => if c = c' ∧ m = m' then some f else mget r c' m'
theorem mget_mem : ∀ {l : Mths} {c : Nat} {m : Str} {f : Nat}, mget l c m = some f → (c, m, f) ∈ l
  | (c, m, f) :: r, c', m', f', h => by
    unfold mget at h
    split at h
    · rename_i hc; cases h; rw [← hc.1, ← hc.2]; exact List.mem_cons_self ..
    · exact List.mem_cons_of_mem _ (mget_mem h)
/-- each method's place holds it -/
def mthsB (ds : List DefI) (l : Mths) : Bool := l.all fun p => match ds[p.2.2]? with | some d => decide (d.own = some (p.1, p.2.1)) | none => false
abbrev Flds := List (Nat × Str)
def fokF (l : Flds) (c : Nat) (f : Str) : Bool := l.any fun p => p.1 == c && decide (p.2 = f)
theorem fokF_mem {l : Flds} {c : Nat} {f : Str} (h : fokF l c f = true) : (c, f) ∈ l := by
  unfold fokF at h
  rw [List.any_eq_true] at h
  obtain ⟨p, hp, e⟩ := h
  simp only [Bool.and_eq_true, beq_iff_eq, decide_eq_true_eq] at e
  obtain ⟨rfl, rfl⟩ := e
  exact hp
/-- what the top has left -/
structure Top (P : Prog) (ds : List DefI) (cs : List Str) (K : PySem.W.Frag) (mg : Str → Option Value) (cl : Nat → Option Addr) : Prop where
  fn : ∀ (i : Nat) (d : DefI), ds[i]? = some d → ∃ a fd, (match d.own with | none => mg d.name = some (.ref a) | some (c, m) => ∃ A, cl c = some A ∧ Meth K A m a) ∧ Fun K d.name d.q d.st a fd ∧ Binds K fd d.ps []
  blt : ∀ x ∈ bltNames, mg x = none
  glb : ∀ x w, P.glob x = some w → ∃ u v, mg x = some u ∧ RelV v u ∧ ∀ ρ H, ValR K ρ H w v
  cls : ∀ (c : Nat) (x : Str), cs[c]? = some x → ∃ A, cl c = some A ∧ mg x = some (.ref A)
  isC : ∀ (c : Nat) (A : Addr), cl c = some A → Cls K A ∧ PySem.W.makesIn K A = true ∧ PySem.W.keepIn K (.ref A) = true
  fokN : ∀ (c : Nat) (A : Addr) (f : Str), cl c = some A → P.fok c f = true → NoAttr K A f
  meth : ∀ (c : Nat) (m : Str) (f : Nat), P.meth c m = some f → ∃ d, ds[f]? = some d ∧ d.own = some (c, m)
theorem env0_rel {K : PySem.W.Frag} {N : List Str} {ρ : List Addr} {H : Hp} {ws : List W} {vs : List V} (h : ValsR K ρ H ws vs) (hl : vs.length ≤ N.length) : EnvR K N ρ H (env0 ws) (L2.start N vs) := by
  refine ⟨?_, fun i w e => ?_⟩
  · unfold L2.start
    rw [List.length_append, List.length_map, List.length_replicate]
    omega
  · obtain ⟨v, h1, h2⟩ := h.get (show ws[i]? = some w from e)
    refine ⟨v, ?_, h2⟩
    unfold L2.start
    rw [List.getElem?_append_left (by rw [List.length_map]; exact (List.getElem?_eq_some_iff.mp h1).1), List.getElem?_map, h1]
    rfl
theorem all_fns {P : Prog} {ds : List DefI} {cs : List Str} {K : PySem.W.Frag} {mg : Str → Option Value} {cl : Nat → Option Addr} {prog : Program} {w : World} {base : Heap} (T : Top P ds cs K mg cl) (hd : defsB ⟨ds.map (·.g), cs⟩ ds P.fns = true) :
    ∀ (n i : Nat) (d : DefI), ds[i]? = some d → ∃ a fd, (match d.own with | none => mg d.name = some (.ref a) | some (c, m) => ∃ A, cl c = some A ∧ Meth K A m a) ∧ Fun K d.name d.q d.st a fd ∧ Binds K fd d.ps [] ∧ FnOk prog w K mg base CX0 n a fd d.ps (spF P n i K cl)
  | 0, i, d, h => by
    obtain ⟨a, fd, h1, h2, h3⟩ := T.fn i d h
    refine ⟨a, fd, h1, h2, h3, fun vs H Q E q => ?_, fun A outer s H args us vs Q E _ _ _ _ q => ?_⟩
    · obtain ⟨_, _, _, _, _, _, _, e, _⟩ := q
      cases e
    · obtain ⟨_, _, _, _, _, _, _, e, _⟩ := q
      cases e
  | n + 1, i, d, h => by
    have ih := all_fns (prog := prog) (w := w) (base := base) (cl := cl) T hd n
    obtain ⟨a, fd, h1, h2, h3⟩ := T.fn i d h
    obtain ⟨f, hf, hb⟩ := defsB_at hd h
    simp only [defB, Bool.and_eq_true, decide_eq_true_eq] at hb
    obtain ⟨⟨b1, b2⟩, b3⟩ := hb
    have S := scope_of b1
    have call_eq : ∀ ws vh, P.call (n + 1) i ws vh = runFn (P.cfg n) f ws vh := fun ws vh => by
      rw [P.call_eq]
      rw [hf]
    have mths : ∀ k, k ≤ n → ∀ (c : Nat) (m : Str) (g : Nat), P.meth c m = some g → ∃ A a' fd' ps', cl c = some A ∧ Meth K A m a' ∧ Binds K fd' ps' [] ∧ FnOk prog w K mg base CX0 k a' fd' ps' (spF P k g K cl) := fun k hk c m g hg => by
      obtain ⟨d', hd', ho⟩ := T.meth c m g hg
      obtain ⟨a', fd', q1, q2, q3, q4⟩ := all_fns (prog := prog) (w := w) (base := base) (cl := cl) T hd k g d' hd'
      rw [ho] at q1
      obtain ⟨A, hA, M⟩ := q1
      exact ⟨A, a', fd', d'.ps, hA, M, q3, q4⟩
    refine ⟨a, fd, h1, h2, h3, h2.ok S (fun vs H Q E q => ?_) (fun cdv A outer s H vs Q E hr q => ?_)⟩
    · obtain ⟨ρ, vh, ws, w', vh', R, V, e, p⟩ := q
      rw [call_eq] at e
      unfold runFn at e
      split at e
      · rename_i hl
        rw [V.length, hl, b2]
      · cases e
    · obtain ⟨ρ, vh, ws, w', vh', R, V, e, p⟩ := q
      rw [call_eq] at e
      unfold runFn at e
      split at e
      · rename_i hl
        obtain ⟨⟨fl, env'⟩, h2', e1, e2⟩ := bnd e
        have ok : XOk P ⟨ds.map (·.g), cs⟩ n cl (cxOf CX0 prog w K mg base d.N d.q (defScope d.st) a cdv A outer s H E).nox := by
          refine ⟨rfl, S.nd, hr, rfl, fun g x hg => ?_, T.blt, T.glb, T.cls, fun c A hc => (T.isC c A hc).1, T.fokN, mths n (Nat.le_refl _), fun k c g hk hg => ?_⟩
          · rw [List.getElem?_map] at hg
            cases hd' : ds[g]? with
            | none => rw [hd'] at hg; cases hg
            | some d' =>
              rw [hd'] at hg
              have hg : d'.g = some x := Option.some.inj hg
              obtain ⟨a', fd', q1, q2, q3, q4⟩ := ih g d' hd'
              unfold DefI.g at hg
              split at hg
              · rename_i ho
                rw [ho] at q1
                cases hg
                exact ⟨a', fd', d'.ps, q1, q2.kp, q3, q4⟩
              · cases hg
          · obtain ⟨A, a', fd', ps', hA, M, q3, q4⟩ := mths k (by omega) c _ g hg
            obtain ⟨_, mk1, mk2⟩ := T.isC c A hA
            exact ⟨A, a', fd', ps', hA, ⟨mk1, M.at_, M.fn, mk2⟩, q3, q4⟩
        have ss := sndSs (X := (cxOf CX0 prog w K mg base d.N d.q (defScope d.st) a cdv A outer s H E).nox) ok (fun _ => rfl) S.kind f.body (defBody d.st) b3
        refine ⟨_, pWSs, ss ρ vh (env0 ws) (L2.start d.N vs) H _ fl env' h2' R (env0_rel V ?_) e1 fun ρ' H' σ' F' R' E' => ?_⟩
        · show vs.length ≤ d.N.length
          rw [V.length, hl, b2]
          have := congrArg List.length S.pre
          rw [List.length_take] at this
          omega
        · cases fl with
          | nx => cases e2; exact p _ _ _ F' R' (vr_non.mpr rfl)
          | rt wv => cases e2; exact fun v hv => p _ _ _ F' R' hv
          | bk => cases e2
          | ct => cases e2
      · cases e
termination_by n => n

theorem fun_inj {K : PySem.W.Frag} {x q x' q' : Str} {st st' : Stmt} {f : Addr} {fd fd' : FuncData} (h : Fun K x q st f fd) (h' : Fun K x' q' st' f fd') : fd = fd' := by
  obtain ⟨_, _, _, _, _, _, _, _, _, _, e, _⟩ := h.ex
  obtain ⟨_, _, _, _, _, _, _, _, _, _, e', _⟩ := h'.ex
  rw [e] at e'
  cases e'
  rfl
/-! ### the law -/
def spLaw (K : PySem.W.Frag) : Sp := fun vs H Q _ => ∃ (a : Addr) (ns : List Int), vs = [.ref a] ∧ SqL K H a (ns.map V.int) ∧ Only H ∧ ns.length ≤ 63 ∧ ∀ H', Q (.bl true) H'
theorem rol_of {K : PySem.W.Frag} {H : Hp} {a : Addr} {xs : List V} (h : SqL K H a xs) (o : Only H) : RoL K H a xs := by
  rcases h with (h | ⟨ob, h⟩) | h
  · rcases o a with z | ⟨_, _, z⟩
    · rw [h] at z; cases z
    · rw [h] at z; cases z
  · exact .inl ⟨ob, h⟩
  · exact .inr h
theorem vals_of_ints' {K : PySem.W.Frag} {ρ : List Addr} {H : Hp} : ∀ ns : List Int, ValsR K ρ H (ns.map W.int) (ns.map V.int)
  | [] => .nil
  | i :: ns => .cons (vr_int.mpr rfl) (vals_of_ints' ns)
theorem law_fn {P : Prog} {n i : Nat} {prog : Program} {w : World} {K : PySem.W.Frag} {mg : Str → Option Value} {base : Heap} {a : Addr} {fd : FuncData} {ps : List Str}
    {cl : Nat → Option Addr} (F : FnOk prog w K mg base CX0 n a fd ps (spF P n i K cl)) (L : ∀ ns : List Int, ns.length ≤ 63 → ∃ h, P.call n i [.rol (ns.map W.int)] [] = .ok (.bl true) h) : FnOk prog w K mg base CX0 n a fd ps (spLaw K) :=
  F.imp fun vs H Q E ⟨b, ns, e, hs, ho, hl, q⟩ => by
    subst e
    obtain ⟨h, hc⟩ := L ns hl
    refine ⟨[], [], _, _, h, ⟨rfl, fun r o a h1 _ => by simp at h1, fun r r' a h1 _ => by simp at h1⟩, .cons (vr_rol.mpr ⟨b, _, rfl, rol_of hs ho, vals_of_ints' ns⟩) .nil, hc, fun ρ' H' v F' R' V' => ?_⟩
    rw [vr_bl.mp V']
    exact q H'
/-- the end, ahead of the head -/
theorem law_walk {l : PySem.W.OpenLaw} {q : Program} {loose : List Str} {XP : (Str → Option Value) → Heap → Prop} {YP : World → Heap → Prop} {d : DefRec} {K : Params → PySem.W.Frag} {P : Prog} {ds : List DefI} {cs : List Str} {n i : Nat} {D : DefI}
    (hn : l.most = some 63) (hdf : d.params.defaults = []) (hY : ∀ (w : World) (h : Heap), YP w h → (K w.params).In h) (hr : Room n callerA)
    (hd : defsB ⟨ds.map (·.g), cs⟩ ds P.fns = true) (hD : ds[i]? = some D) (hDo : D.own = none) (hDn : D.name = d.name) (hDp : D.ps = [("script" : Str)])
    (L : ∀ ns : List Int, ns.length ≤ 63 → ∃ h, P.call n i [.rol (ns.map W.int)] [] = .ok (.bl true) h)
    (hT : ∀ (w : World) (mg : Str → Option Value) (h : Heap), (K w.params).In h → h.Ns mainGlobals mg → ∃ cl, Top P ds cs (K w.params) mg cl)
    (hB : ∀ (w : World) (fd : FuncData) (f : Addr), Fun (K w.params) D.name D.q D.st f fd → ∀ (s : Shared) (u : Value), BindsTo s fd ⟨[u], []⟩ [("script", u)]) :
    PySem.W.WalkO q loose XP YP l.row.toRowW d [] (fun f vs => PySem.call f vs) :=
  L2.walk_ofK (n := 63) (k := n) (x := "script") (CX := CX0) (sp := spLaw) hn (by rw [sizeLine_eq]; decide) hdf hr hY (fun w mg fa h hK hG hm => by
    obtain ⟨cl, T⟩ := hT w mg h hK hG
    obtain ⟨a, fd, m1, m2, _⟩ := T.fn i D hD
    rw [hDo] at m1
    have e : mg d.name = some (.ref a) := by rw [← hDn]; exact m1
    rw [hm] at e
    cases e
    refine ⟨fd, hB w fd _ m2, fun base hK' hG' => ?_⟩
    obtain ⟨a2, fd2, q1, q2, _, q4⟩ := all_fns (prog := l.prog) (w := w) (base := base) (cl := cl) T hd n i D hD
    rw [hDo] at q1
    have q1 : mg D.name = some (.ref a2) := q1
    have m1 : mg D.name = some (.ref fa) := m1
    rw [m1] at q1
    cases q1
    have hfd : fd2 = fd := fun_inj q2 m2
    subst hfd
    rw [hDp] at q4
    exact law_fn q4 L) (fun K H a ns h1 h2 h3 => ⟨a, ns, rfl, h3, h2, h1, fun _ => rfl⟩) fun _ _ _ _ z => z
end Nw

set_option Elab.async false
set_option linter.all false
set_option maxRecDepth 100000
set_option maxHeartbeats 4000000
/-! Nw, part K: running the evaluator by simp (continuations are named, so that simp does not walk into them); heaps; loops. -/
namespace Nw
open PySem PySem.Spec PyProof.Rows L2

/-! ### the heap by own words: what stands at r; a store; a new object -/
def hg (h : VH) (r : Nat) : Option O := h[r]?
def hs (h : VH) (r : Nat) (o : O) : VH := h.set r o
def hn (h : VH) (o : O) : VH := h ++ [o]
@[simp] theorem x_ok {α β : Type} (a : α) (h : VH) (f : α → VH → R β) : (R.ok a h).bind f = f a h := (rfl)
@[simp] theorem x_bad {α β : Type} (f : α → VH → R β) : (R.bad : R α).bind f = .bad := (rfl)
@[simp] theorem x_some {α : Type} (a : α) (h : VH) : ok? (some a) h = .ok a h := (rfl)
@[simp] theorem x_none {α : Type} (h : VH) : ok? (none : Option α) h = .bad := (rfl)
@[simp] theorem x_iteb {α β : Type} (c : Prop) [Decidable c] (r q : R α) (f : α → VH → R β) : (if c then r else q).bind f = if c then r.bind f else q.bind f := by split <;> rfl
def k_seq {α β γ : Type} (f : α → VH → R β) (g : β → VH → R γ) (a : α) (h : VH) : R γ := (f a h).bind g
@[simp] theorem y_seq {α β γ : Type} (f : α → VH → R β) (g : β → VH → R γ) (a : α) (h : VH) : k_seq f g a h = (f a h).bind g := (rfl)
@[simp] theorem x_assoc {α β γ : Type} (r : R α) (f : α → VH → R β) (g : β → VH → R γ) : (r.bind f).bind g = r.bind (k_seq f g) := by cases r <;> rfl
/-- it goes well, and Q holds of what it gives -/
def Run {α : Type} (r : R α) (Q : α → VH → Prop) : Prop := ∃ a h, r = .ok a h ∧ Q a h
theorem run_bind {α β : Type} {r : R α} {k : α → VH → R β} {P : α → VH → Prop} {Q : β → VH → Prop} (a : Run r P) (b : ∀ a h, P a h → Run (k a h) Q) : Run (r.bind k) Q := by
  obtain ⟨x, h, rfl, p⟩ := a
  exact b x h p
theorem Run.imp {α : Type} {r : R α} {P Q : α → VH → Prop} (a : Run r P) (b : ∀ a h, P a h → Q a h) : Run r Q := by
  obtain ⟨x, h, e, p⟩ := a
  exact ⟨x, h, e, b x h p⟩
/-- what is asked in the end, as one opaque word -/
theorem run_q {α : Type} {r : R α} {P : α → VH → Prop} (f : ∀ Q : α → VH → Prop, (∀ a h, P a h → Q a h) → Run r Q) : Run r P := f P fun _ _ z => z
@[simp] theorem run_ok {α : Type} (a : α) (h : VH) (Q : α → VH → Prop) : Run (.ok a h) Q = Q a h := by
  apply propext
  constructor
  · rintro ⟨_, _, e, q⟩
    cases e
    exact q
  · exact fun q => ⟨_, _, rfl, q⟩
theorem run_ite {α : Type} {c : Prop} [Decidable c] {r q : R α} {Q : α → VH → Prop} (a : c → Run r Q) (b : ¬ c → Run q Q) : Run (if c then r else q) Q := by
  split
  · exact a ‹_›
  · exact b ‹_›
@[simp] theorem x_setv (env : Env) (i : Nat) (w : W) (j : Nat) : setv env i w j = if j = i then some w else env j := (rfl)
@[simp] theorem x_wipe (env : Env) (own : List Nat) (j : Nat) : wipeE env own j = if j ∈ own then none else env j := (rfl)
@[simp] theorem x_env0 (ws : List W) (i : Nat) : env0 ws i = ws[i]? := (rfl)
section
variable (C : Cfg) (env : Env) (h : VH)
@[simp] theorem x_var (i : Nat) : evE C (.var i) env h = ok? (env i) h := (rfl)
@[simp] theorem x_cst (w : W) : evE C (.cst w) env h = .ok w h := (rfl)
@[simp] theorem x_gl (x : Str) : evE C (.gl x) env h = ok? (C.glob x) h := (rfl)
def k_op2 (o : Bop) (x y : W) (h : VH) : R W := binW o x y h
def k_op (C : Cfg) (o : Bop) (b : E) (env : Env) (x : W) (h : VH) : R W := (evE C b env h).bind (k_op2 o x)
@[simp] theorem y_op2 (o : Bop) (x y : W) : k_op2 o x y h = binW o x y h := (rfl)
@[simp] theorem y_op (o : Bop) (b : E) (x : W) : k_op C o b env x h = (evE C b env h).bind (k_op2 o x) := (rfl)
@[simp] theorem x_bin (o : Bop) (a b : E) : evE C (.bin o a b) env h = (evE C a env h).bind (k_op C o b env) := (rfl)
def k_ng (x : W) (h1 : VH) : R W := match x with | .int i => .ok (.int (-i)) h1 | _ => .bad
@[simp] theorem y_ng (i : Int) : k_ng (.int i) h = .ok (.int (-i)) h := (rfl)
@[simp] theorem x_neg (a : E) : evE C (.neg a) env h = (evE C a env h).bind k_ng := (rfl)
def k_bl (b : Bool) (h2 : VH) : R W := .ok (.bl b) h2
@[simp] theorem y_bl (b : Bool) : k_bl b h = .ok (.bl b) h := (rfl)
def k_nbl (b : Bool) (h2 : VH) : R W := .ok (.bl (!b)) h2
@[simp] theorem y_nbl (b : Bool) : k_nbl b h = .ok (.bl (!b)) h := (rfl)
def k_tr (x : W) (h : VH) : R Bool := ok? (truW h x) h
@[simp] theorem y_tr (x : W) : k_tr x h = ok? (truW h x) h := (rfl)
def k_nt (x : W) (h1 : VH) : R W := (ok? (truW h1 x) h1).bind k_nbl
@[simp] theorem y_nt (x : W) : k_nt x h = (ok? (truW h x) h).bind k_nbl := (rfl)
@[simp] theorem x_nt (a : E) : evE C (.nt a) env h = (evE C a env h).bind k_nt := (rfl)
def k_cm2 (o : Cop) (x y : W) (h2 : VH) : R W := (ok? (cmpW o x y h2) h2).bind k_bl
@[simp] theorem y_cm2 (o : Cop) (x y : W) : k_cm2 o x y h = (ok? (cmpW o x y h) h).bind k_bl := (rfl)
def k_cm (C : Cfg) (o : Cop) (b : E) (env : Env) (x : W) (h1 : VH) : R W := (evE C b env h1).bind (k_cm2 o x)
@[simp] theorem y_cm (o : Cop) (b : E) (x : W) : k_cm C o b env x h = (evE C b env h).bind (k_cm2 o x) := (rfl)
@[simp] theorem x_cmp (o : Cop) (a b : E) : evE C (.cmp o a b) env h = (evE C a env h).bind (k_cm C o b env) := (rfl)
def k_ch3 (C : Cfg) (p : Cop) (c : E) (env : Env) (y : W) (k : Bool) (h : VH) : R W := if k then (evE C c env h).bind (k_cm2 p y) else .ok (.bl false) h
@[simp] theorem y_ch3 (p : Cop) (c : E) (y : W) (k : Bool) : k_ch3 C p c env y k h = if k then (evE C c env h).bind (k_cm2 p y) else .ok (.bl false) h := (rfl)
def k_ch2 (C : Cfg) (o p : Cop) (c : E) (env : Env) (x y : W) (h : VH) : R W := (ok? (cmpW o x y h) h).bind (k_ch3 C p c env y)
@[simp] theorem y_ch2 (o p : Cop) (c : E) (x y : W) : k_ch2 C o p c env x y h = (ok? (cmpW o x y h) h).bind (k_ch3 C p c env y) := (rfl)
def k_ch (C : Cfg) (o p : Cop) (b c : E) (env : Env) (x : W) (h : VH) : R W := (evE C b env h).bind (k_ch2 C o p c env x)
@[simp] theorem y_ch (o p : Cop) (b c : E) (x : W) : k_ch C o p b c env x h = (evE C b env h).bind (k_ch2 C o p c env x) := (rfl)
@[simp] theorem x_chn (o p : Cop) (a b c : E) : evE C (.chn o p a b c) env h = (evE C a env h).bind (k_ch C o p b c env) := (rfl)
@[simp] theorem x_and (es : List E) : evE C (.and es) env h = evAnd C es env h := (rfl)
@[simp] theorem x_or (es : List E) : evE C (.or es) env h = evOr C es env h := (rfl)
def k_if (C : Cfg) (a b : E) (env : Env) (k : Bool) (h : VH) : R W := if k then evE C a env h else evE C b env h
@[simp] theorem y_if (a b : E) (k : Bool) : k_if C a b env k h = if k then evE C a env h else evE C b env h := (rfl)
@[simp] theorem x_ite (c a b : E) : evE C (.ite c a b) env h = ((evE C c env h).bind k_tr).bind (k_if C a b env) := by
  show (evE C c env h).bind _ = _
  cases evE C c env h <;> rfl
def k_tp (ws : List W) (h1 : VH) : R W := if ws.length ≤ line then .ok (.tup ws) h1 else .bad
@[simp] theorem y_tp (ws : List W) : k_tp ws h = if ws.length ≤ line then .ok (.tup ws) h else .bad := (rfl)
@[simp] theorem x_tup (es : List E) : evE C (.tup es) env h = (evEs C es env h).bind k_tp := (rfl)
@[simp] theorem x_lst (es : List E) : evE C (.lst es) env h = (evEs C es env h).bind newL := (rfl)
def k_dc (ks : List Key) (ws : List W) (h1 : VH) : R W := if ks.length = ws.length ∧ ks.length ≤ 15 then new (.dct ((ks.zip ws).foldl (fun a p => dset a p.1 p.2) [])) h1 else .bad
@[simp] theorem x_dct (ks : List Key) (es : List E) : evE C (.dct ks es) env h = (evEs C es env h).bind (k_dc ks) := (rfl)
def k_ix2 (x y : W) (h2 : VH) : R W := ok? (ixW h2 x y) h2
@[simp] theorem y_ix2 (x y : W) : k_ix2 x y h = ok? (ixW h x y) h := (rfl)
def k_ix (C : Cfg) (b : E) (env : Env) (x : W) (h1 : VH) : R W := (evE C b env h1).bind (k_ix2 x)
@[simp] theorem y_ix (b : E) (x : W) : k_ix C b env x h = (evE C b env h).bind (k_ix2 x) := (rfl)
@[simp] theorem x_ix (a b : E) : evE C (.ix a b) env h = (evE C a env h).bind (k_ix C b env) := (rfl)
def k_sl3 (x : W) (l : Option Int) (u : Option Int) (h3 : VH) : R W := slW x l u h3
@[simp] theorem y_sl3 (x : W) (l u : Option Int) : k_sl3 x l u h = slW x l u h := (rfl)
def k_sl2 (C : Cfg) (hi : Option E) (env : Env) (x : W) (l : Option Int) (h2 : VH) : R W := (evO C hi env h2).bind (k_sl3 x l)
@[simp] theorem y_sl2 (hi : Option E) (x : W) (l : Option Int) : k_sl2 C hi env x l h = (evO C hi env h).bind (k_sl3 x l) := (rfl)
def k_sl (C : Cfg) (lo hi : Option E) (env : Env) (x : W) (h2 : VH) : R W := (evO C lo env h2).bind (k_sl2 C hi env x)
@[simp] theorem y_sl (lo hi : Option E) (x : W) : k_sl C lo hi env x h = (evO C lo env h).bind (k_sl2 C hi env x) := (rfl)
@[simp] theorem x_sl (a : E) (lo hi : Option E) : evE C (.sl a lo hi) env h = (evE C a env h).bind (k_sl C lo hi env) := (rfl)
@[simp] theorem x_rev (a : E) : evE C (.rev a) env h = (evE C a env h).bind revW := (rfl)
@[simp] theorem x_call (f : Nat) (es : List E) : evE C (.call f es) env h = (evEs C es env h).bind (C.call f) := (rfl)
@[simp] theorem x_bi (f : Bi) (es : List E) : evE C (.bi f es) env h = (evEs C es env h).bind (biW f) := (rfl)
def k_is (t : Ty) (x : W) (h1 : VH) : R W := (ok? (isiW h1 t x) h1).bind k_bl
@[simp] theorem y_is (t : Ty) (x : W) : k_is t x h = (ok? (isiW h t x) h).bind k_bl := (rfl)
@[simp] theorem x_isi (a : E) (t : Ty) : evE C (.isi a t) env h = (evE C a env h).bind (k_is t) := (rfl)
def k_mt2 (C : Cfg) (m : Str) (x : W) (h1 : VH) (ws : List W) (h2 : VH) : R W := match x with
      | .ref r => match h1[r]? with
        | some (.lst _) => lmW m r ws h2
        | some (.ins c _) => match C.meth c m with | some f => C.call f (x :: ws) h2 | none => .bad
        | _ => .bad
      | _ => .bad
def k_mt (C : Cfg) (m : Str) (es : List E) (env : Env) (x : W) (h1 : VH) : R W := (evEs C es env h1).bind (k_mt2 C m x h1)
@[simp] theorem y_mt (m : Str) (es : List E) (x : W) : k_mt C m es env x h = (evEs C es env h).bind (k_mt2 C m x h) := (rfl)
@[simp] theorem x_mth (o : E) (m : Str) (es : List E) : evE C (.mth o m es) env h = (evE C o env h).bind (k_mt C m es env) := (rfl)

def itK (its : Its) (f : W → VH → R (Option W)) (h : VH) : R (List W) := lcRun its f (itLen h its + 1) 0 [] h
def k_some (x : W) (h : VH) : R (Option W) := .ok (some x) h
@[simp] theorem y_some (x : W) : k_some x h = .ok (some x) h := (rfl)
def k_elt (C : Cfg) (elt : E) (env : Env) (b : Bool) (h : VH) : R (Option W) := if b then (evE C elt env h).bind k_some else .ok none h
@[simp] theorem y_elt (elt : E) (b : Bool) : k_elt C elt env b h = if b then (evE C elt env h).bind k_some else .ok none h := (rfl)
def xlcF (C : Cfg) (elt : E) (own : List Nat) (tg : TN) (cs : List E) (env : Env) (w : W) (h : VH) : R (Option W) := match bindT tg w (wipeE env own) with
        | none => .bad
        | some e => (evTs C cs e h).bind (k_elt C elt e)
def k_lc2 (C : Cfg) (elt : E) (own : List Nat) (tg : TN) (cs : List E) (env : Env) (its : Its) (h : VH) : R W := (itK its (xlcF C elt own tg cs env) h).bind newL
@[simp] theorem y_lc2 (elt : E) (own : List Nat) (tg : TN) (cs : List E) (its : Its) : k_lc2 C elt own tg cs env its h = (itK its (xlcF C elt own tg cs env) h).bind newL := (rfl)
@[simp] theorem x_lc (elt : E) (own : List Nat) (tg : TN) (k : IK) (it cs : List E) : evE C (.lc elt own tg k it cs) env h = ((evEs C it env h).bind (itsOf k)).bind (k_lc2 C elt own tg cs env) := by
  show (evEs C it env h).bind _ = _
  cases evEs C it env h <;> rfl
@[simp] theorem x_lcF (elt : E) (own : List Nat) (i : Nat) (cs : List E) (w : W) : xlcF C elt own (.nm i) cs env w h = (evTs C cs (setv (wipeE env own) i w) h).bind (k_elt C elt (setv (wipeE env own) i w)) := (rfl)
def k_cons (x : W) (xs : List W) (h : VH) : R (List W) := .ok (x :: xs) h
@[simp] theorem y_cons (x : W) (xs : List W) : k_cons x xs h = .ok (x :: xs) h := (rfl)
def k_esc (C : Cfg) (es : List E) (env : Env) (x : W) (h : VH) : R (List W) := (evEs C es env h).bind (k_cons x)
@[simp] theorem y_esc (es : List E) (x : W) : k_esc C es env x h = (evEs C es env h).bind (k_cons x) := (rfl)
@[simp] theorem x_esn : evEs C [] env h = .ok [] h := (rfl)
@[simp] theorem x_esc (e : E) (es : List E) : evEs C (e :: es) env h = (evE C e env h).bind (k_esc C es env) := (rfl)
@[simp] theorem x_and1 (e : E) : evAnd C [e] env h = evE C e env h := (rfl)
def k_and2 (C : Cfg) (es : List E) (env : Env) (x : W) (k : Bool) (h2 : VH) : R W := if k then evAnd C es env h2 else .ok x h2
@[simp] theorem y_and2 (es : List E) (x : W) (k : Bool) : k_and2 C es env x k h = if k then evAnd C es env h else .ok x h := (rfl)
def k_and (C : Cfg) (es : List E) (env : Env) (x : W) (h1 : VH) : R W := (ok? (truW h1 x) h1).bind (k_and2 C es env x)
@[simp] theorem y_and (es : List E) (x : W) : k_and C es env x h = (ok? (truW h x) h).bind (k_and2 C es env x) := (rfl)
@[simp] theorem x_andc (e e' : E) (es : List E) : evAnd C (e :: e' :: es) env h = (evE C e env h).bind (k_and C (e' :: es) env) := (rfl)
@[simp] theorem x_or1 (e : E) : evOr C [e] env h = evE C e env h := (rfl)
def k_or2 (C : Cfg) (es : List E) (env : Env) (x : W) (k : Bool) (h2 : VH) : R W := if k then .ok x h2 else evOr C es env h2
@[simp] theorem y_or2 (es : List E) (x : W) (k : Bool) : k_or2 C es env x k h = if k then .ok x h else evOr C es env h := (rfl)
def k_or (C : Cfg) (es : List E) (env : Env) (x : W) (h1 : VH) : R W := (ok? (truW h1 x) h1).bind (k_or2 C es env x)
@[simp] theorem y_or (es : List E) (x : W) : k_or C es env x h = (ok? (truW h x) h).bind (k_or2 C es env x) := (rfl)
@[simp] theorem x_orc (e e' : E) (es : List E) : evOr C (e :: e' :: es) env h = (evE C e env h).bind (k_or C (e' :: es) env) := (rfl)
@[simp] theorem x_tsn : evTs C [] env h = .ok true h := (rfl)
def k_ts (C : Cfg) (es : List E) (env : Env) (k : Bool) (h2 : VH) : R Bool := if k then evTs C es env h2 else .ok false h2
@[simp] theorem y_ts (es : List E) (k : Bool) : k_ts C es env k h = if k then evTs C es env h else .ok false h := (rfl)
@[simp] theorem x_tsc (e : E) (es : List E) : evTs C (e :: es) env h = ((evE C e env h).bind k_tr).bind (k_ts C es env) := by
  show (evE C e env h).bind _ = _
  cases evE C e env h <;> rfl
@[simp] theorem x_on : evO C none env h = .ok none h := (rfl)
def k_o (x : W) (h1 : VH) : R (Option Int) := match x with | .int i => .ok (some i) h1 | _ => .bad
@[simp] theorem y_o (i : Int) : k_o (.int i) h = .ok (some i) h := (rfl)
@[simp] theorem x_os (e : E) : evO C (some e) env h = (evE C e env h).bind k_o := (rfl)
@[simp] theorem x_T (e : E) : evT C e env h = (evE C e env h).bind k_tr := (rfl)
@[simp] theorem x_tnm (i : Nat) (w : W) : asT C (.nm i) w env h = .ok (setv env i w) h := (rfl)
@[simp] theorem x_ttp (ts : List Tg) (ws : List W) : asT C (.tp ts) (.tup ws) env h = asTs C ts ws env h := (rfl)
def k_un (env : Env) (_ : Unit) (h : VH) : R Env := .ok env h
@[simp] theorem y_un (u : Unit) : k_un env u h = .ok env h := (rfl)
def k_sb2 (w x : W) (env : Env) (y : W) (h2 : VH) : R Env := (putW x y w h2).bind (k_un env)
@[simp] theorem y_sb2 (w x y : W) : k_sb2 w x env y h = (putW x y w h).bind (k_un env) := (rfl)
def k_sb (C : Cfg) (i : E) (w : W) (env : Env) (x : W) (h1 : VH) : R Env := (evE C i env h1).bind (k_sb2 w x env)
@[simp] theorem y_sb (i : E) (w x : W) : k_sb C i w env x h = (evE C i env h).bind (k_sb2 w x env) := (rfl)
@[simp] theorem x_tsub (o i : E) (w : W) : asT C (.sub o i) w env h = (evE C o env h).bind (k_sb C i w env) := (rfl)
@[simp] theorem x_ts0 : asTs C [] [] env h = .ok env h := (rfl)
def k_tss (C : Cfg) (ts : List Tg) (ws : List W) (e : Env) (h1 : VH) : R Env := asTs C ts ws e h1
@[simp] theorem y_tss (ts : List Tg) (ws : List W) : k_tss C ts ws env h = asTs C ts ws env h := (rfl)
@[simp] theorem x_ts1 (t : Tg) (ts : List Tg) (w : W) (ws : List W) : asTs C (t :: ts) (w :: ws) env h = (asT C t w env h).bind (k_tss C ts ws) := (rfl)
def k_nx1 (env : Env) (_ : W) (h1 : VH) : R (Fl × Env) := .ok (.nx, env) h1
@[simp] theorem y_nx1 (w : W) : k_nx1 env w h = .ok (.nx, env) h := (rfl)
@[simp] theorem x_ex (e : E) : evS C (.ex e) env h = (evE C e env h).bind (k_nx1 env) := (rfl)
def k_nx (env : Env) (h1 : VH) : R (Fl × Env) := .ok (.nx, env) h1
@[simp] theorem y_nx : k_nx env h = .ok (.nx, env) h := (rfl)
def k_set (C : Cfg) (t : Tg) (env : Env) (x : W) (h1 : VH) : R (Fl × Env) := (asT C t x env h1).bind k_nx
@[simp] theorem y_set (t : Tg) (x : W) : k_set C t env x h = (asT C t x env h).bind k_nx := (rfl)
@[simp] theorem x_set (t : Tg) (e : E) : evS C (.set t e) env h = (evE C e env h).bind (k_set C t env) := (rfl)
def k_sv (i : Nat) (env : Env) (z : W) (h2 : VH) : R (Fl × Env) := .ok (.nx, setv env i z) h2
@[simp] theorem y_sv (i : Nat) (z : W) : k_sv i env z h = .ok (.nx, setv env i z) h := (rfl)
def k_an (i : Nat) (o : Bop) (x : W) (env : Env) (y : W) (h2 : VH) : R (Fl × Env) := (augW o x y h2).bind (k_sv i env)
@[simp] theorem y_an (i : Nat) (o : Bop) (x y : W) : k_an i o x env y h = (augW o x y h).bind (k_sv i env) := (rfl)
def k_an0 (C : Cfg) (i : Nat) (o : Bop) (e : E) (env : Env) (x : W) (h2 : VH) : R (Fl × Env) := (evE C e env h2).bind (k_an i o x env)
@[simp] theorem y_an0 (i : Nat) (o : Bop) (e : E) (x : W) : k_an0 C i o e env x h = (evE C e env h).bind (k_an i o x env) := (rfl)
@[simp] theorem x_augN (i : Nat) (o : Bop) (e : E) : evS C (.augN i o e) env h = (ok? (env i) h).bind (k_an0 C i o e env) := (rfl)
def k_un2 (env : Env) (_ : Unit) (h1 : VH) : R (Fl × Env) := .ok (.nx, env) h1
@[simp] theorem y_un2 (u : Unit) : k_un2 env u h = .ok (.nx, env) h := (rfl)
def k_as4 (env : Env) (x y z : W) (h5 : VH) : R (Fl × Env) := (putW x y z h5).bind (k_un2 env)
@[simp] theorem y_as4 (x y z : W) : k_as4 env x y z h = (putW x y z h).bind (k_un2 env) := (rfl)
def k_as3 (p : Bop) (env : Env) (x y old : W) (w : W) (h4 : VH) : R (Fl × Env) := (augW p old w h4).bind (k_as4 env x y)
@[simp] theorem y_as3 (p : Bop) (x y old w : W) : k_as3 p env x y old w h = (augW p old w h).bind (k_as4 env x y) := (rfl)
def k_as2 (C : Cfg) (p : Bop) (e : E) (env : Env) (x y : W) (old : W) (h3 : VH) : R (Fl × Env) := (evE C e env h3).bind (k_as3 p env x y old)
@[simp] theorem y_as2 (p : Bop) (e : E) (x y old : W) : k_as2 C p e env x y old h = (evE C e env h).bind (k_as3 p env x y old) := (rfl)
def k_as1 (C : Cfg) (p : Bop) (e : E) (env : Env) (x y : W) (h2 : VH) : R (Fl × Env) := (ok? (ixW h2 x y) h2).bind (k_as2 C p e env x y)
@[simp] theorem y_as1 (p : Bop) (e : E) (x y : W) : k_as1 C p e env x y h = (ok? (ixW h x y) h).bind (k_as2 C p e env x y) := (rfl)
def k_as0 (C : Cfg) (i : E) (p : Bop) (e : E) (env : Env) (x : W) (h2 : VH) : R (Fl × Env) := (evE C i env h2).bind (k_as1 C p e env x)
@[simp] theorem y_as0 (i : E) (p : Bop) (e : E) (x : W) : k_as0 C i p e env x h = (evE C i env h).bind (k_as1 C p e env x) := (rfl)
@[simp] theorem x_augS (o i : E) (p : Bop) (e : E) : evS C (.augS o i p e) env h = (evE C o env h).bind (k_as0 C i p e env) := (rfl)
@[simp] theorem x_ret0 : evS C (.ret none) env h = .ok (.rt .non, env) h := (rfl)
def k_rt (env : Env) (x : W) (h1 : VH) : R (Fl × Env) := .ok (.rt x, env) h1
@[simp] theorem y_rt (x : W) : k_rt env x h = .ok (.rt x, env) h := (rfl)
@[simp] theorem x_ret (e : E) : evS C (.ret (some e)) env h = (evE C e env h).bind (k_rt env) := (rfl)
def k_ife (C : Cfg) (a b : List Sm) (env : Env) (k : Bool) (h : VH) : R (Fl × Env) := if k then evSs C a env h else evSs C b env h
@[simp] theorem y_ife (a b : List Sm) (k : Bool) : k_ife C a b env k h = if k then evSs C a env h else evSs C b env h := (rfl)
@[simp] theorem x_if (c : E) (a b : List Sm) : evS C (.ife c a b) env h = (evT C c env h).bind (k_ife C a b env) := (rfl)
def forF (C : Cfg) (t : TN) (b : List Sm) (w : W) (env : Env) (h : VH) : R (Fl × Env) := match bindT t w env with | none => .bad | some e => evSs C b e h
def forK (f : W → Env → VH → R (Fl × Env)) (env : Env) (its : Its) (h : VH) : R (Fl × Env) := forRun its f (itLen h its + 1) 0 env h
@[simp] theorem x_for (t : TN) (k : IK) (it : List E) (b : List Sm) : evS C (.for t k it b) env h = ((evEs C it env h).bind (itsOf k)).bind (forK (forF C t b) env) := by
  show (evEs C it env h).bind _ = _
  cases evEs C it env h <;> rfl
@[simp] theorem x_forF (i : Nat) (b : List Sm) (w : W) : forF C (.nm i) b w env h = evSs C b (setv env i w) h := (rfl)
@[simp] theorem x_badS : evS C .bad env h = .bad := (rfl)
def k_ss3 (x : W) (a : W) (env : Env) (w b : W) (h4 : VH) : R (Fl × Env) := match a, b with
      | .int i, .int j => (putS x i j w h4).bind fun _ h5 => .ok (.nx, env) h5
      | _, _ => .bad
@[simp] theorem y_ss3' (x : W) (i j : Int) (w : W) : k_ss3 x (.int i) env w (.int j) h = (putS x i j w h).bind (k_un2 env) := (rfl)
def k_sls2 (C : Cfg) (hi : E) (env : Env) (w x a : W) (h : VH) : R (Fl × Env) := (evE C hi env h).bind (k_ss3 x a env w)
@[simp] theorem y_sls2 (hi : E) (w x a : W) : k_sls2 C hi env w x a h = (evE C hi env h).bind (k_ss3 x a env w) := (rfl)
def k_sls1 (C : Cfg) (lo hi : E) (env : Env) (w x : W) (h : VH) : R (Fl × Env) := (evE C lo env h).bind (k_sls2 C hi env w x)
@[simp] theorem y_sls1 (lo hi : E) (w x : W) : k_sls1 C lo hi env w x h = (evE C lo env h).bind (k_sls2 C hi env w x) := (rfl)
def k_sls0 (C : Cfg) (o lo hi : E) (env : Env) (w : W) (h : VH) : R (Fl × Env) := (evE C o env h).bind (k_sls1 C lo hi env w)
@[simp] theorem y_sls0 (o lo hi : E) (w : W) : k_sls0 C o lo hi env w h = (evE C o env h).bind (k_sls1 C lo hi env w) := (rfl)
@[simp] theorem x_slS (o lo hi e : E) : evS C (.slS o lo hi e) env h = (evE C e env h).bind (k_sls0 C o lo hi env) := (rfl)
def fldO (h : VH) (f : Str) : Option O → R W
  | some (.ins _ fs) => ok? (fget fs f) h
  | _ => .bad
@[simp] theorem o_fld (f : Str) (c : Nat) (fs : List (Str × W)) : fldO h f (some (.ins c fs)) = ok? (fget fs f) h := (rfl)
def k_fld (f : Str) (x : W) (h1 : VH) : R W := match x with
      | .ref r => fldO h1 f (hg h1 r)
      | _ => .bad
@[simp] theorem y_fld (f : Str) (r : Nat) : k_fld f (.ref r) h = fldO h f (hg h r) := (rfl)
@[simp] theorem x_fld (o : E) (f : Str) : evE C (.fld o f) env h = (evE C o env h).bind (k_fld f) := by
  show (evE C o env h).bind _ = _
  cases evE C o env h with
  | bad => rfl
  | ok x h1 =>
    cases x <;> rfl
def attO (fok : Nat → Str → Bool) (h : VH) (r : Nat) (f : Str) (w : W) : Option O → R Unit
  | some (.ins c fs) => if fs.length < 900 ∧ fok c f = true then .ok () (hs h r (.ins c (fset fs f w))) else .bad
  | _ => .bad
@[simp] theorem o_att (fok : Nat → Str → Bool) (r : Nat) (f : Str) (w : W) (c : Nat) (fs : List (Str × W)) : attO fok h r f w (some (.ins c fs)) = if fs.length < 900 ∧ fok c f = true then .ok () (hs h r (.ins c (fset fs f w))) else .bad := (rfl)
@[simp] theorem z_att (fok : Nat → Str → Bool) (r : Nat) (f : Str) (w : W) : attW fok (.ref r) f w h = attO fok h r f w (hg h r) := by
  show (match h[r]? with | some (.ins c fs) => _ | _ => _) = _
  unfold attO hg
  cases h[r]? with
  | none => rfl
  | some o => cases o <;> rfl
def k_att (C : Cfg) (f : Str) (w : W) (env : Env) (x : W) (h1 : VH) : R Env := (attW C.fok x f w h1).bind (k_un env)
@[simp] theorem y_att (f : Str) (w x : W) : k_att C f w env x h = (attW C.fok x f w h).bind (k_un env) := (rfl)
@[simp] theorem x_tatt (o : E) (f : Str) (w : W) : asT C (.att o f) w env h = (evE C o env h).bind (k_att C f w env) := (rfl)
def attAO (fok : Nat → Str → Bool) (c0 : Nat) (h : VH) (r : Nat) (f : Str) (w : W) : Option O → R Unit
  | some (.ins c fs) => if fs.length < 900 ∧ fok c f = true ∧ c = c0 then .ok () (hs h r (.ins c (fset fs f w))) else .bad
  | _ => .bad
@[simp] theorem o_attA (fok : Nat → Str → Bool) (c0 r : Nat) (f : Str) (w : W) (c : Nat) (fs : List (Str × W)) : attAO fok c0 h r f w (some (.ins c fs)) = if fs.length < 900 ∧ fok c f = true ∧ c = c0 then .ok () (hs h r (.ins c (fset fs f w))) else .bad := (rfl)
@[simp] theorem z_attA (fok : Nat → Str → Bool) (c0 r : Nat) (f : Str) (w : W) : attA fok c0 (.ref r) f w h = attAO fok c0 h r f w (hg h r) := by
  show (match h[r]? with | some (.ins c fs) => _ | _ => _) = _
  unfold attAO hg
  cases h[r]? with
  | none => rfl
  | some o => cases o <;> rfl
def k_aa4 (C : Cfg) (c : Nat) (x : W) (f : Str) (env : Env) (z : W) (h4 : VH) : R (Fl × Env) := (attA C.fok c x f z h4).bind (k_un2 env)
@[simp] theorem y_aa4 (c : Nat) (x : W) (f : Str) (z : W) : k_aa4 C c x f env z h = (attA C.fok c x f z h).bind (k_un2 env) := (rfl)
def k_aa3 (C : Cfg) (c : Nat) (p : Bop) (x : W) (f : Str) (env : Env) (old w : W) (h3 : VH) : R (Fl × Env) := (augW p old w h3).bind (k_aa4 C c x f env)
@[simp] theorem y_aa3 (c : Nat) (p : Bop) (x : W) (f : Str) (old w : W) : k_aa3 C c p x f env old w h = (augW p old w h).bind (k_aa4 C c x f env) := (rfl)
def k_aa2 (C : Cfg) (c : Nat) (p : Bop) (e : E) (x : W) (f : Str) (env : Env) (old : W) (h2 : VH) : R (Fl × Env) := (evE C e env h2).bind (k_aa3 C c p x f env old)
@[simp] theorem y_aa2 (c : Nat) (p : Bop) (e : E) (x : W) (f : Str) (old : W) : k_aa2 C c p e x f env old h = (evE C e env h).bind (k_aa3 C c p x f env old) := (rfl)
def aaO (C : Cfg) (p : Bop) (e : E) (x : W) (f : Str) (env : Env) (h1 : VH) : Option O → R (Fl × Env)
  | some (.ins c fs) => (ok? (fget fs f) h1).bind (k_aa2 C c p e x f env)
  | _ => .bad
@[simp] theorem o_aa (p : Bop) (e : E) (x : W) (f : Str) (c : Nat) (fs : List (Str × W)) : aaO C p e x f env h (some (.ins c fs)) = (ok? (fget fs f) h).bind (k_aa2 C c p e x f env) := (rfl)
def k_aa1 (C : Cfg) (p : Bop) (e : E) (f : Str) (env : Env) (x : W) (h1 : VH) : R (Fl × Env) := match x with | .ref r => aaO C p e x f env h1 (hg h1 r) | _ => .bad
@[simp] theorem y_aa1 (p : Bop) (e : E) (f : Str) (r : Nat) : k_aa1 C p e f env (.ref r) h = aaO C p e (.ref r) f env h (hg h r) := (rfl)
@[simp] theorem x_augA (o : E) (f : Str) (p : Bop) (e : E) : evS C (.augA o f p e) env h = (evE C o env h).bind (k_aa1 C p e f env) := by
  show (evE C o env h).bind _ = _
  cases evE C o env h with
  | bad => rfl
  | ok x h1 =>
    cases x <;> rfl
@[simp] theorem x_newE (c : Nat) (es : List E) : evE C (.new c es) env h = (evEs C es env h).bind (C.make c) := (rfl)
def k_trg (ws : List W) (h1 : VH) : R W := match ws with
      | [.int j] => if inI j ∧ j ≤ line then .ok (.tup (rangeW 0 j)) h1 else .bad
      | [.int i, .int j] => if inI i ∧ inI j ∧ (j - i).toNat ≤ line then .ok (.tup (rangeW i j)) h1 else .bad
      | _ => .bad
@[simp] theorem x_trg (es : List E) : evE C (.trg es) env h = (evEs C es env h).bind k_trg := (rfl)
theorem y_trg2 {i j : Int} (e1 : 0 ≤ i) (e2 : j < 1000000) (e3 : 0 ≤ j) (e4 : i < 1000000) : k_trg [.int i, .int j] h = .ok (.tup (rangeW i j)) h := by
  show (if inI i = true ∧ inI j = true ∧ (j - i).toNat ≤ line then _ else _) = _
  rw [if_pos]
  have : line = 16777216 := rfl
  simp [inI]; omega
def k_mk (r : Nat) (x : W) (h : VH) : R W := match x with | .non => .ok (.ref r) h | _ => .bad
@[simp] theorem y_mk (r : Nat) : k_mk r .non h = .ok (.ref r) h := (rfl)
@[simp] theorem x_pass : evS C .pass env h = .ok (.nx, env) h := (rfl)
@[simp] theorem x_brk : evS C .brk env h = .ok (.bk, env) h := (rfl)
@[simp] theorem x_cont : evS C .cont env h = .ok (.ct, env) h := (rfl)
def k_ss (C : Cfg) (ss : List Sm) (r : Fl × Env) (h1 : VH) : R (Fl × Env) := match r with
    | (.nx, e) => evSs C ss e h1
    | r => .ok r h1
@[simp] theorem x_ssn : evSs C [] env h = .ok (.nx, env) h := (rfl)
@[simp] theorem x_ssc (s : Sm) (ss : List Sm) : evSs C (s :: ss) env h = (evS C s env h).bind (k_ss C ss) := by
  show (evS C s env h).bind _ = _
  cases evS C s env h with
  | bad => rfl
  | ok a h1 => rcases a with ⟨fl, e⟩; cases fl <;> rfl
@[simp] theorem y_ss (ss : List Sm) (e : Env) : k_ss C ss (.nx, e) h = evSs C ss e h := (rfl)
@[simp] theorem y_ss1 (ss : List Sm) (w : W) (e : Env) : k_ss C ss (.rt w, e) h = .ok (.rt w, e) h := (rfl)
@[simp] theorem y_ss2 (ss : List Sm) (e : Env) : k_ss C ss (.bk, e) h = .ok (.bk, e) h := (rfl)
@[simp] theorem y_ss3 (ss : List Sm) (e : Env) : k_ss C ss (.ct, e) h = .ok (.ct, e) h := (rfl)
def retK (r : Fl × Env) (h1 : VH) : R W := match r.1 with
    | .rt w => .ok w h1
    | .nx => .ok .non h1
    | _ => .bad
@[simp] theorem x_rrt (w : W) (e : Env) : retK (.rt w, e) h = .ok w h := (rfl)
@[simp] theorem x_rnx (e : Env) : retK (.nx, e) h = .ok .non h := (rfl)
theorem run_eq {p : Nat} {b : List Sm} {ws : List W} (hl : ws.length = p) : runFn C ⟨p, b⟩ ws h = (evSs C b (env0 ws) h).bind retK := by
  unfold runFn
  rw [if_pos hl]
  rfl
end
theorem call_run {P : Prog} {n f : Nat} {d : Fn} {ws : List W} {h : VH} (e : P.fns[f]? = some d) (hl : ws.length = d.ps) : P.call (n + 1) f ws h = (evSs (P.cfg n) d.body (env0 ws) h).bind retK := by
  rw [P.call_eq, e]
  obtain ⟨p, b⟩ := d
  exact run_eq (P.cfg n) h hl
@[simp] theorem x_cfg (P : Prog) (n f : Nat) (ws : List W) (h : VH) : (P.cfg n).call f ws h = P.call n f ws h := (rfl)
@[simp] theorem x_cfg1 (P : Prog) (n : Nat) : (P.cfg n).call = P.call n := (rfl)
@[simp] theorem x_cfg4 (P : Prog) (n : Nat) : (P.cfg n).make = P.make n := (rfl)
@[simp] theorem x_cfg5 (P : Prog) (n : Nat) : (P.cfg n).fok = P.fok := (rfl)
@[simp] theorem x_cfg6 (P : Prog) (n : Nat) : (P.cfg n).meth = P.meth := (rfl)
@[simp] theorem x_cfg2 (P : Prog) (n : Nat) : (P.cfg n).glob = P.glob := (rfl)
@[simp] theorem x_cfg3 (P : Prog) (n : Nat) : (P.cfg n).M = P.M := (rfl)
@[simp] theorem x_S (a b : List Nat) : (S a = S b) = (a = b) := by rw [S_inj]
@[simp] theorem x_dg0 (j : Key) : dget [] j = none := (rfl)
@[simp] theorem x_dg (k j : Key) (v : W) (r : List (Key × W)) : dget ((k, v) :: r) j = if k = j then some v else dget r j := (rfl)
@[simp] theorem x_fg0 (j : Str) : fget [] j = none := (rfl)
@[simp] theorem x_fg (k j : Str) (v : W) (r : List (Str × W)) : fget ((k, v) :: r) j = if k = j then some v else fget r j := (rfl)
@[simp] theorem x_ds (l : List (Key × W)) (k : Key) (w : W) : dset l k w = if (l.any fun p => decide (p.1 = k)) = true then l.map (fun p => if p.1 = k then (p.1, w) else p) else l ++ [(k, w)] := (rfl)
theorem lt_hg {h : VH} {r : Nat} (e : (hg h r).isSome = true) : r < h.length := by
  unfold hg at e
  rw [Option.isSome_iff_exists] at e
  obtain ⟨o, e⟩ := e
  exact (List.getElem?_eq_some_iff.mp e).1
theorem hg_lt {h : VH} {r : Nat} (e : r < h.length) : (hg h r).isSome = true := by
  unfold hg
  rw [List.getElem?_eq_getElem e]; rfl
/-- where the k-th new object will stand -/
def nx (h : VH) (k : Nat) : Nat := h.length + k
@[simp] theorem nx_hs (h : VH) (r k : Nat) (o : O) : nx (hs h r o) k = nx h k := by simp [nx, hs]
@[simp] theorem nx_hn (h : VH) (k : Nat) (o : O) : nx (hn h o) k = nx h (k + 1) := by simp [nx, hn]; omega
@[simp] theorem nx_nx (h : VH) (j k : Nat) : (nx h j = nx h k) = (j = k) := by simp [nx]
theorem nx_le {h0 h : VH} (l : h0.length ≤ h.length) (k : Nat) : h0.length ≤ nx h k := Nat.le_trans l (Nat.le_add_right _ _)
theorem hs_len (h : VH) (r : Nat) (o : O) : (hs h r o).length = h.length := List.length_set
theorem hn_len (h : VH) (o : O) : (hn h o).length = h.length + 1 := by simp [hn]
@[simp] theorem hg_hs {h : VH} {r : Nat} {o : O} (e : (hg h r).isSome = true) : hg (hs h r o) r = some o := List.getElem?_set_self (lt_hg e)
@[simp] theorem hg_ne {h : VH} {r q : Nat} {o : O} (e : r ≠ q) : hg (hs h r o) q = hg h q := List.getElem?_set_ne e
theorem hg_hn {h : VH} {q : Nat} {o : O} (e : (hg h q).isSome = true) : hg (hn h o) q = hg h q := List.getElem?_append_left (lt_hg e)
@[simp] theorem hg_hn_if (h : VH) (q : Nat) (o : O) : hg (hn h o) q = if q = nx h 0 then some o else hg h q := by
  unfold hg hn nx
  split
  · rename_i e
    subst e
    rw [List.getElem?_append_right (by omega)]; simp
  · rename_i e
    by_cases l : q < h.length
    · exact List.getElem?_append_left l
    · rw [List.getElem?_eq_none_iff.mpr (by simp; omega), List.getElem?_eq_none_iff.mpr (by omega)]
@[simp] theorem nx_ne {h : VH} {q k : Nat} (e : (hg h q).isSome = true) : (nx h k = q) = False := by
  have := lt_hg e
  unfold nx
  simp; omega
@[simp] theorem nx_ne2 {h : VH} {q k : Nat} (e : (hg h q).isSome = true) : (q = nx h k) = False := by
  have := lt_hg e
  unfold nx
  simp; omega
theorem hs_hs {h : VH} {r : Nat} {o o' : O} : hs (hs h r o) r o' = hs h r o' := by simp [hs]
/-! ### values by their kinds -/
section
variable (h : VH)
@[simp] theorem z_addi (i j : Int) : binW .add (.int i) (.int j) h = .ok (.int (i + j)) h := (rfl)
@[simp] theorem z_subi (i j : Int) : binW .sub (.int i) (.int j) h = .ok (.int (i - j)) h := (rfl)
theorem z_muli {i j : Int} (e : i.natAbs < 2 ^ 60 ∨ j.natAbs < 2 ^ 60) : binW .mul (.int i) (.int j) h = .ok (.int (i * j)) h := by
  show (if mulOk i j = true then _ else _) = _
  rw [if_pos]
  simpa [mulOk] using e

@[simp] theorem z_mulr {i j : Int} (e : j.natAbs < 1152921504606846976) : binW .mul (.int i) (.int j) h = .ok (.int (i * j)) h := z_muli h (.inr e)
theorem z_mull {i j : Int} (e : i.natAbs < 1152921504606846976) : binW .mul (.int i) (.int j) h = .ok (.int (i * j)) h := z_muli h (.inl e)
@[simp] theorem z_fd {i j : Int} (e : 0 < j) (e2 : j < 1267650600228229401496703205376) : binW .fdiv (.int i) (.int j) h = .ok (.int (i / j)) h := by
  have q : binI .fdiv i j = some (i / j) := if_pos ⟨e, e2⟩
  show (match binI .fdiv i j with | some k => _ | none => _) = _
  rw [q]
@[simp] theorem z_md {i j : Int} (e : 0 < j) : binW .mod (.int i) (.int j) h = .ok (.int (i % j)) h := by
  have q : binI .mod i j = some (i % j) := if_pos e
  show (match binI .mod i j with | some k => _ | none => _) = _
  rw [q]
@[simp] theorem z_aug (i j : Int) : augW .add (.int i) (.int j) h = .ok (.int (i + j)) h := (rfl)
@[simp] theorem z_aug2 (i j : Int) : augW .sub (.int i) (.int j) h = .ok (.int (i - j)) h := (rfl)
@[simp] theorem z_lt (i j : Int) : cmpW .lt (.int i) (.int j) h = some (decide (i < j)) := (rfl)
@[simp] theorem z_le (i j : Int) : cmpW .le (.int i) (.int j) h = some (decide (i ≤ j)) := (rfl)
@[simp] theorem z_gt (i j : Int) : cmpW .gt (.int i) (.int j) h = some (decide (j < i)) := (rfl)
@[simp] theorem z_ge (i j : Int) : cmpW .ge (.int i) (.int j) h = some (decide (j ≤ i)) := (rfl)
@[simp] theorem z_eq (a b : W) : cmpW .eq a b h = eqW h a b := (rfl)
@[simp] theorem z_ne (a b : W) : cmpW .ne a b h = (eqW h a b).map (!·) := (rfl)
@[simp] theorem z_in (a b : W) : cmpW .isin a b h = inW h a b := (rfl)
@[simp] theorem z_nin (a b : W) : cmpW .notin a b h = (inW h a b).map (!·) := (rfl)
@[simp] theorem z_eqi (i j : Int) : eqW h (.int i) (.int j) = some (decide (i = j)) := (rfl)
@[simp] theorem z_eqs (i j : Str) : eqW h (.str i) (.str j) = some (decide (i = j)) := (rfl)
@[simp] theorem z_eqb (i j : Bool) : eqW h (.bl i) (.bl j) = some (decide (i = j)) := (rfl)
@[simp] theorem z_trb (b : Bool) : truW h (.bl b) = some b := (rfl)
@[simp] theorem z_tri (i : Int) : truW h (.int i) = some (i != 0) := (rfl)
@[simp] theorem z_trn : truW h .non = some false := (rfl)
@[simp] theorem z_trt (ws : List W) : truW h (.tup ws) = some (!ws.isEmpty) := (rfl)
@[simp] theorem z_inti (i : Int) : biW .int [.int i] h = .ok (.int i) h := (rfl)
@[simp] theorem z_intb (b : Bool) : biW .int [.bl b] h = .ok (.int (if b then 1 else 0)) h := (rfl)
@[simp] theorem z_abs (i : Int) : biW .abs [.int i] h = .ok (.int (if i < 0 then -i else i)) h := (rfl)
@[simp] theorem z_lent (ws : List W) : biW .len [.tup ws] h = .ok (.int ws.length) h := (rfl)
@[simp] theorem z_lenr (ws : List W) : biW .len [.rol ws] h = .ok (.int ws.length) h := (rfl)
def lenO (h : VH) : Option O → R W
  | some (.lst ws) => .ok (.int ws.length) h
  | some (.dct kvs) => .ok (.int kvs.length) h
  | _ => .bad
@[simp] theorem o_len1 (ws : List W) : lenO h (some (.lst ws)) = .ok (.int ws.length) h := (rfl)
@[simp] theorem o_len2 (ws : List (Key × W)) : lenO h (some (.dct ws)) = .ok (.int ws.length) h := (rfl)
@[simp] theorem z_lenl (r : Nat) : biW .len [.ref r] h = lenO h (hg h r) := by
  show (match hg h r with | some (.lst ws) => _ | some (.dct kvs) => _ | _ => _) = _
  unfold lenO
  rfl
@[simp] theorem z_lens (s : Str) : biW .len [.str s] h = if s.length ≤ line then .ok (.int s.length) h else .bad := (rfl)
@[simp] theorem z_max2 (i j : Int) : biW .max [.int i, .int j] h = .ok (.int (if j > i then j else i)) h := (rfl)
@[simp] theorem ints_map (ns : List Int) : intsOf (ns.map W.int) = some ns := by
  induction ns with
  | nil => rfl
  | cons a l ih => simp [intsOf, ih]
theorem z_maxt (ns : List Int) (e : ns ≠ []) : biW .max [.tup (ns.map W.int)] h = .ok (.int (maxI ns)) h := by
  show (match intsOf (ns.map W.int) with | some ns => (if ns = [] then _ else _) | none => _) = _
  rw [ints_map]
  simp [e]
theorem z_mint (ns : List Int) (e : ns ≠ []) : biW .min [.tup (ns.map W.int)] h = .ok (.int (minI ns)) h := by
  show (match intsOf (ns.map W.int) with | some ns => (if ns = [] then _ else _) | none => _) = _
  rw [ints_map]
  simp [e]
@[simp] theorem z_min2 (i j : Int) : biW .min [.int i, .int j] h = .ok (.int (if j < i then j else i)) h := (rfl)
@[simp] theorem z_ixt (ws : List W) (i : Int) : ixW h (.tup ws) (.int i) = atW ws i := (rfl)
@[simp] theorem z_ixr (ws : List W) (i : Int) : ixW h (.rol ws) (.int i) = atW ws i := (rfl)
def ixO : Option O → W → Option W
  | some (.dct kvs), k => (match keyW k with | some k => dget kvs k | none => none)
  | some (.lst ws), k => (match k with | .int i => atW ws i | _ => none)
  | _, _ => none
@[simp] theorem o_ix1 (kvs : List (Key × W)) (s : Str) : ixO (some (.dct kvs)) (.str s) = dget kvs (.inr s) := (rfl)
@[simp] theorem o_ix2 (kvs : List (Key × W)) (s : Int) : ixO (some (.dct kvs)) (.int s) = dget kvs (.inl s) := (rfl)
@[simp] theorem o_ix3 (kvs : List W) (s : Int) : ixO (some (.lst kvs)) (.int s) = atW kvs s := (rfl)
@[simp] theorem z_ix (r : Nat) (k : W) : ixW h (.ref r) k = ixO (hg h r) k := by
  show (match hg h r with | some (.dct kvs) => _ | some (.lst ws) => _ | _ => _) = _
  cases hg h r with
  | none => rfl
  | some o => cases o <;> rfl
def putO (h : VH) (r : Nat) : Option O → W → W → R Unit
  | some (.lst ws), .int j, w => if 0 ≤ j then (if j < ws.length then .ok () (hs h r (.lst (ws.set j.toNat w))) else .bad)
                  else if -(ws.length : Int) ≤ j then .ok () (hs h r (.lst (ws.set (j + ws.length).toNat w))) else .bad
  | some (.dct kvs), i, w => (match keyW i with | some k => if kvs.length < line then .ok () (hs h r (.dct (dset kvs k w))) else .bad | none => .bad)
  | _, _, _ => .bad
@[simp] theorem o_put1 (r : Nat) (ws : List W) (j : Int) (w : W) : putO h r (some (.lst ws)) (.int j) w = if 0 ≤ j then (if j < ws.length then .ok () (hs h r (.lst (ws.set j.toNat w))) else .bad)
                  else if -(ws.length : Int) ≤ j then .ok () (hs h r (.lst (ws.set (j + ws.length).toNat w))) else .bad := rfl
@[simp] theorem o_put2 (r : Nat) (kvs : List (Key × W)) (s : Str) (w : W) : putO h r (some (.dct kvs)) (.str s) w = if kvs.length < line then .ok () (hs h r (.dct (dset kvs (.inr s) w))) else .bad := (rfl)
@[simp] theorem o_put3 (r : Nat) (kvs : List (Key × W)) (s : Int) (w : W) : putO h r (some (.dct kvs)) (.int s) w = if kvs.length < line then .ok () (hs h r (.dct (dset kvs (.inl s) w))) else .bad := (rfl)
@[simp] theorem z_put (r : Nat) (i w : W) : putW (.ref r) i w h = putO h r (hg h r) i w := by
  show (match hg h r with | some (.lst ws) => _ | some (.dct kvs) => _ | _ => _) = _
  cases hg h r with
  | none => rfl
  | some o => cases o <;> first | rfl | (cases i <;> rfl)
def mtO (C : Cfg) (m : Str) (r : Nat) (ws : List W) (h2 : VH) : Option O → R W
  | some (.lst _) => lmW m r ws h2
  | some (.ins c _) => (match C.meth c m with | some f => C.call f (.ref r :: ws) h2 | none => .bad)
  | _ => .bad
@[simp] theorem o_mt (C : Cfg) (m : Str) (r : Nat) (ws zs : List W) : mtO C m r ws h (some (.lst zs)) = lmW m r ws h := (rfl)
@[simp] theorem y_mt2 (C : Cfg) (m : Str) (r : Nat) (h1 : VH) (ws : List W) : k_mt2 C m (.ref r) h1 ws h = mtO C m r ws h (hg h1 r) := (rfl)
def mtI (C : Cfg) (r : Nat) (ws : List W) (h2 : VH) : Option Nat → R W
  | some f => C.call f (.ref r :: ws) h2
  | none => .bad
@[simp] theorem o_mti (C : Cfg) (m : Str) (r c : Nat) (ws : List W) (fs : List (Str × W)) : mtO C m r ws h (some (.ins c fs)) = mtI C r ws h (C.meth c m) := (rfl)
@[simp] theorem o_mtf (C : Cfg) (r : Nat) (ws : List W) (f : Nat) : mtI C r ws h (some f) = C.call f (.ref r :: ws) h := (rfl)
@[simp] theorem z_fs0 (j : Str) (w : W) : fset [] j w = [(j, w)] := (rfl)
@[simp] theorem z_fs (k j : Str) (v w : W) (r : List (Str × W)) : fset ((k, v) :: r) j w = if k = j then (k, w) :: r else (k, v) :: fset r j w := (rfl)
def appO (h : VH) (r : Nat) (w : W) : Option O → R W
  | some (.lst ws) => if ws.length < line then .ok .non (hs h r (.lst (ws ++ [w]))) else .bad
  | _ => .bad
@[simp] theorem o_app (r : Nat) (w : W) (ws : List W) : appO h r w (some (.lst ws)) = if ws.length < line then .ok .non (hs h r (.lst (ws ++ [w]))) else .bad := (rfl)
@[simp] theorem z_app (r : Nat) (w : W) : lmW (S [97, 112, 112, 101, 110, 100]) r [w] h = appO h r w (hg h r) := by
  show (match hg h r with | some (.lst ws) => _ | _ => _) = _
  unfold appO
  cases hg h r with
  | none => rfl
  | some o => cases o <;> simp only [reduceIte, hs]
def lmO (m : Str) (h : VH) (r : Nat) (as : List W) : Option O → R W
  | some (.lst ws) => lmW m r as h
  | _ => .bad
def popO (h : VH) (r : Nat) : Option O → R W
  | some (.lst ws) => if ws = [] then .bad else .ok (ws.getLast?.getD .non) (hs h r (.lst ws.dropLast))
  | _ => .bad
@[simp] theorem o_pop (r : Nat) (ws : List W) : popO h r (some (.lst ws)) = if ws = [] then .bad else .ok (ws.getLast?.getD .non) (hs h r (.lst ws.dropLast)) := (rfl)
@[simp] theorem z_pop (r : Nat) : lmW (S [112, 111, 112]) r [] h = popO h r (hg h r) := by
  show (match hg h r with | some (.lst ws) => _ | _ => _) = _
  unfold popO
  cases hg h r with
  | none => rfl
  | some o => cases o <;> first | rfl | simp only [reduceIte, hs, S_inj, List.cons.injEq, Nat.reduceEqDiff, false_and, and_false]
def pop0O (h : VH) (r : Nat) : Option O → R W
  | some (.lst (w :: zs)) => .ok w (hs h r (.lst zs))
  | _ => .bad
@[simp] theorem o_pop0 (r : Nat) (w : W) (zs : List W) : pop0O h r (some (.lst (w :: zs))) = .ok w (hs h r (.lst zs)) := (rfl)
@[simp] theorem z_pop0 (r : Nat) : lmW (S [112, 111, 112]) r [.int 0] h = pop0O h r (hg h r) := by
  show (match hg h r with | some (.lst ws) => _ | _ => _) = _
  unfold pop0O
  cases hg h r with
  | none => rfl
  | some o =>
    cases o with
    | lst ws =>
      simp only [reduceIte, hs, S_inj, List.cons.injEq, Nat.reduceEqDiff, false_and, and_false]
      cases ws <;> rfl
    | _ => rfl
def remO (h : VH) (r : Nat) (k : Int) : Option O → R W
  | some (.lst ws) => (match intsOf ws with | some ns => if k ∈ ns then .ok .non (hs h r (.lst ((ns.erase k).map W.int))) else .bad | none => .bad)
  | _ => .bad
@[simp] theorem o_rem (r : Nat) (k : Int) (ns : List Int) : remO h r k (some (.lst (ns.map W.int))) = if k ∈ ns then .ok .non (hs h r (.lst ((ns.erase k).map W.int))) else .bad := by
  have e : intsOf (ns.map W.int) = some ns := by
    induction ns with
    | nil => rfl
    | cons a l ih => simp [intsOf, ih]
  show (match intsOf (ns.map W.int) with | some ns => _ | none => _) = _
  rw [e]
@[simp] theorem z_rem (r : Nat) (k : Int) : lmW (S [114, 101, 109, 111, 118, 101]) r [.int k] h = remO h r k (hg h r) := by
  show (match hg h r with | some (.lst ws) => _ | _ => _) = _
  unfold remO
  cases hg h r with
  | none => rfl
  | some o => cases o <;> first | rfl | simp only [reduceIte, hs, S_inj, List.cons.injEq, Nat.reduceEqDiff, false_and, and_false]
def insO (h : VH) (r : Nat) (w : W) : Option O → R W
  | some (.lst ws) => if ws.length < line then .ok .non (hs h r (.lst (w :: ws))) else .bad
  | _ => .bad
@[simp] theorem o_ins0 (r : Nat) (w : W) (ws : List W) : insO h r w (some (.lst ws)) = if ws.length < line then .ok .non (hs h r (.lst (w :: ws))) else .bad := (rfl)
@[simp] theorem z_ins0 (r : Nat) (w : W) : lmW (S [105, 110, 115, 101, 114, 116]) r [.int 0, w] h = insO h r w (hg h r) := by
  show (match hg h r with | some (.lst ws) => _ | _ => _) = _
  unfold insO
  cases hg h r with
  | none => rfl
  | some o => cases o <;> first | rfl | simp only [reduceIte, hs, S_inj, List.cons.injEq, Nat.reduceEqDiff, false_and, and_false]
def extO (h : VH) (r : Nat) : Option O → Option O → R W
  | some (.lst ws), some (.lst zs) => if ws.length + zs.length ≤ line then .ok .non (hs h r (.lst (ws ++ zs))) else .bad
  | _, _ => .bad
@[simp] theorem o_ext (r : Nat) (ws zs : List W) : extO h r (some (.lst ws)) (some (.lst zs)) = if ws.length + zs.length ≤ line then .ok .non (hs h r (.lst (ws ++ zs))) else .bad := (rfl)
@[simp] theorem z_ext (r q : Nat) : lmW (S [101, 120, 116, 101, 110, 100]) r [.ref q] h = extO h r (hg h r) (hg h q) := by
  show (match hg h r with | some (.lst ws) => _ | _ => _) = _
  unfold extO
  cases hg h r with
  | none => rfl
  | some o =>
    cases o with
    | lst ws =>
      simp only [reduceIte, hs, S_inj, List.cons.injEq, Nat.reduceEqDiff, false_and, and_false]
      show (match hg h q with | some (.lst ws) => _ | _ => _) = _
      cases hg h q with
      | none => rfl
      | some o => cases o <;> rfl
    | _ => rfl
def putSO (h : VH) (r q : Nat) (lo hi : Int) : Option O → Option O → R Unit
  | some (.lst xs), some (.lst ys) => if 0 ≤ lo ∧ lo ≤ hi ∧ hi ≤ xs.length ∧ xs.length + ys.length ≤ line then .ok () (hs h r (.lst (xs.take lo.toNat ++ ys ++ xs.drop hi.toNat))) else .bad
  | _, _ => .bad
@[simp] theorem o_putS (r q : Nat) (lo hi : Int) (xs ys : List W) : putSO h r q lo hi (some (.lst xs)) (some (.lst ys)) = if 0 ≤ lo ∧ lo ≤ hi ∧ hi ≤ xs.length ∧ xs.length + ys.length ≤ line then .ok () (hs h r (.lst (xs.take lo.toNat ++ ys ++ xs.drop hi.toNat))) else .bad := (rfl)
@[simp] theorem z_putS (r q : Nat) (lo hi : Int) : putS (.ref r) lo hi (.ref q) h = if r = q then .bad else putSO h r q lo hi (hg h r) (hg h q) := by
  show (if r = q then R.bad else match hg h r, hg h q with | some (.lst xs), some (.lst ys) => _ | _, _ => _) = _
  unfold putSO
  split
  · rfl
  · rfl
def indO (h : VH) (w : W) : Option O → R W
  | some (.lst ws) => if flatW w = true ∧ ws.all flatW = true then (match ws.findIdx? (fun y => eqF y w) with | some j => .ok (.int (j : Nat)) h | none => .bad) else .bad
  | _ => .bad
def idxK (h : VH) : Option Nat → R W
  | some j => .ok (.int (j : Nat)) h
  | none => .bad
@[simp] theorem o_idx (j : Nat) : idxK h (some j) = .ok (.int (j : Nat)) h := (rfl)
@[simp] theorem o_ind (w : W) (ws : List W) : indO h w (some (.lst ws)) = if flatW w = true ∧ ws.all flatW = true then idxK h (ws.findIdx? (fun y => eqF y w)) else .bad := by
  show (if _ then (match ws.findIdx? (fun y => eqF y w) with | some j => _ | none => _) else _) = _
  unfold idxK
  rfl
@[simp] theorem z_index (r : Nat) (w : W) : lmW (S [105, 110, 100, 101, 120]) r [w] h = indO h w (hg h r) := by
  show (match hg h r with | some (.lst ws) => _ | _ => _) = _
  unfold indO
  cases hg h r with
  | none => rfl
  | some o => cases o <;> first | rfl | simp only [reduceIte, S_inj, List.cons.injEq, Nat.reduceEqDiff, false_and, and_false]
@[simp] theorem x_line : line = 16777216 := (rfl)
@[simp] theorem x_new (o : O) : new o h = .ok (.ref (nx h 0)) (hn h o) := (rfl)
@[simp] theorem z_newL {ws : List W} (l : ws.length ≤ 16777216) : newL ws h = .ok (.ref (nx h 0)) (hn h (.lst ws)) := by
  unfold newL
  rw [if_pos l]
  rfl
def slO (h : VH) (lo hi : Option Int) : Option O → R W
  | some (.lst ws) => .ok (.ref (nx h 0)) (hn h (.lst (cut ws lo hi)))
  | _ => .bad
@[simp] theorem o_sl (lo hi : Option Int) (ws : List W) : slO h lo hi (some (.lst ws)) = .ok (.ref (nx h 0)) (hn h (.lst (cut ws lo hi))) := (rfl)
@[simp] theorem z_sl (r : Nat) (lo hi : Option Int) : slW (.ref r) lo hi h = slO h lo hi (hg h r) := by
  show (match listAt h r with | some ws => _ | none => _) = _
  unfold listAt
  show (match (match hg h r with | some (.lst ws) => some ws | _ => none) with | some ws => _ | none => _) = _
  cases hg h r with
  | none => rfl
  | some o => cases o <;> rfl
@[simp] theorem z_slt (ws : List W) (lo hi : Option Int) : slW (.tup ws) lo hi h = .ok (.tup (cut ws lo hi)) h := (rfl)
@[simp] theorem z_slr (ws : List W) (lo hi : Option Int) : slW (.rol ws) lo hi h = .ok (.ref (nx h 0)) (hn h (.lst (cut ws lo hi))) := (rfl)
theorem cut_map {α β : Type} (f : α → β) (ws : List α) (lo hi : Option Int) : cut (ws.map f) lo hi = (cut ws lo hi).map f := by
  simp [cut, List.map_drop, List.map_take]
theorem cut_mem {α : Type} {ws : List α} {lo hi : Option Int} {x : α} (m : x ∈ cut ws lo hi) : x ∈ ws := List.mem_of_mem_drop (List.mem_of_mem_take m)
theorem cut_len {α : Type} {ws : List α} {lo hi : Option Int} : (cut ws lo hi).length ≤ ws.length := by
  simp [cut]; omega
def addO (h : VH) : Option O → Option O → R W
  | some (.lst x), some (.lst y) => if x.length + y.length ≤ line then new (.lst (x ++ y)) h else .bad
  | _, _ => .bad
@[simp] theorem o_add (x y : List W) : addO h (some (.lst x)) (some (.lst y)) = if x.length + y.length ≤ line then .ok (.ref (nx h 0)) (hn h (.lst (x ++ y))) else .bad := (rfl)
@[simp] theorem z_addl (r q : Nat) : binW .add (.ref r) (.ref q) h = addO h (hg h r) (hg h q) := by
  show (match hg h r, hg h q with | some (.lst x), some (.lst y) => _ | _, _ => _) = _
  unfold addO
  rfl
@[simp] theorem z_addt (x y : List W) : binW .add (.tup x) (.tup y) h = if x.length + y.length ≤ line then .ok (.tup (x ++ y)) h else .bad := (rfl)
@[simp] theorem z_adds (x y : Str) : binW .add (.str x) (.str y) h = if x.length + y.length ≤ line then .ok (.str (x ++ y)) h else .bad := (rfl)
def mulO (h : VH) (j : Int) : Option O → R W
  | some (.lst x) => if j < 2 ^ 30 ∧ -(2 ^ 30) < j ∧ x.length * j.toNat ≤ line then new (.lst (List.replicate j.toNat x).flatten) h else .bad
  | _ => .bad
@[simp] theorem o_mul (x : List W) (j : Int) : mulO h j (some (.lst x)) = if j < 1073741824 ∧ -1073741824 < j ∧ x.length * j.toNat ≤ line then .ok (.ref (nx h 0)) (hn h (.lst (List.replicate j.toNat x).flatten)) else .bad := (rfl)
@[simp] theorem z_mull' (r : Nat) (j : Int) : binW .mul (.ref r) (.int j) h = mulO h j (hg h r) := by
  show (match hg h r with | some (.lst x) => _ | _ => _) = _
  unfold mulO
  rfl
@[simp] theorem z_mult (x : List W) (j : Int) : binW .mul (.tup x) (.int j) h = if x ≠ [] ∧ 2 ≤ j ∧ j ≤ 1000 ∧ x.length ≤ 1000 then .ok (.tup (List.replicate j.toNat x).flatten) h else .bad := (rfl)
def lstO (h : VH) : Option O → R W
  | some (.lst x) => .ok (.ref (nx h 0)) (hn h (.lst x))
  | _ => .bad
def tplO (h : VH) : Option O → R W
  | some (.lst x) => .ok (.tup x) h
  | _ => .bad
@[simp] theorem o_lst (x : List W) : lstO h (some (.lst x)) = .ok (.ref (nx h 0)) (hn h (.lst x)) := (rfl)
@[simp] theorem o_tpl (x : List W) : tplO h (some (.lst x)) = .ok (.tup x) h := (rfl)
@[simp] theorem z_lstt (x : List W) : biW .list [.tup x] h = .ok (.ref (nx h 0)) (hn h (.lst x)) := (rfl)
@[simp] theorem z_lstr (x : List W) : biW .list [.rol x] h = .ok (.ref (nx h 0)) (hn h (.lst x)) := (rfl)
@[simp] theorem z_lstl (r : Nat) : biW .list [.ref r] h = lstO h (hg h r) := by
  show (match listAt h r with | some ws => _ | none => _) = _
  unfold listAt
  show (match (match hg h r with | some (.lst ws) => some ws | _ => none) with | some ws => _ | none => _) = _
  cases hg h r with
  | none => rfl
  | some o => cases o <;> rfl
@[simp] theorem z_tplt (x : List W) : biW .tuple [.tup x] h = .ok (.tup x) h := (rfl)
@[simp] theorem z_tplr (x : List W) : biW .tuple [.rol x] h = .ok (.tup x) h := (rfl)
@[simp] theorem z_tpll (r : Nat) : biW .tuple [.ref r] h = tplO h (hg h r) := by
  show (match listAt h r with | some ws => _ | none => _) = _
  unfold listAt
  show (match (match hg h r with | some (.lst ws) => some ws | _ => none) with | some ws => _ | none => _) = _
  cases hg h r with
  | none => rfl
  | some o => cases o <;> rfl
@[simp] theorem z_itt (x : List W) : itsOf .plain [.tup x] h = .ok (.ws x) h := (rfl)
@[simp] theorem z_its (x : Str) : itsOf .plain [.str x] h = .ok (.ws (strW x)) h := (rfl)
@[simp] theorem z_itr (x : List W) : itsOf .plain [.rol x] h = .ok (.ws x) h := (rfl)
theorem z_itl {r : Nat} {x : List W} (e : hg h r = some (.lst x)) : itsOf .plain [.ref r] h = .ok (.live r) h := by
  show (match listAt h r with | some ws => _ | none => _) = _
  unfold listAt
  show (match (match hg h r with | some (.lst ws) => some ws | _ => none) with | some ws => _ | none => _) = _
  rw [e]
@[simp] theorem z_rg2 {i j : Int} (e : j < 2305843009213693952) (e2 : 0 ≤ j) (e3 : 0 ≤ i) (e4 : i < 2305843009213693952) : itsOf .range [.int i, .int j] h = .ok (.ws (rangeW i j)) h := by
  show (if inI i ∧ inI j then _ else _) = _
  rw [if_pos]
  simp [inI]; omega
@[simp] theorem y_dc (ks : List Key) (ws : List W) (e : ks.length = ws.length) (l : ks.length ≤ 15) : k_dc ks ws h = .ok (.ref (nx h 0)) (hn h (.dct ((ks.zip ws).foldl (fun a p => dset a p.1 p.2) []))) := by
  unfold k_dc
  rw [if_pos ⟨e, l⟩]
  rfl
@[simp] theorem z_rg1 {j : Int} (e : j < 2305843009213693952) (e2 : 0 ≤ j) : itsOf .range [.int j] h = .ok (.ws (rangeW 0 j)) h := by
  show (if inI j = true then _ else _) = _
  rw [if_pos]
  simp [inI]; omega
end
@[simp] theorem z_inT (h : VH) (a : W) (ws : List W) : inW h a (.tup ws) = inF a ws := (rfl)
@[simp] theorem z_inF (a : W) (ws : List W) : inF a ws = if flatW a = true ∧ ws.all flatW = true then some (ws.any fun y => eqF y a) else none := (rfl)
@[simp] theorem fl_n : flatW .non = true := (rfl)
@[simp] theorem fl_b (b : Bool) : flatW (.bl b) = true := (rfl)
@[simp] theorem fl_i (i : Int) : flatW (.int i) = true := (rfl)
@[simp] theorem fl_s (s : Str) : flatW (.str s) = true := (rfl)
@[simp] theorem ef_s (a b : Str) : eqF (.str a) (.str b) = decide (a = b) := by
  show (a == b) = _
  by_cases e : a = b
  · subst e; simp
  · rw [decide_eq_false e]; simpa using e
@[simp] theorem ef_i (a b : Int) : eqF (.int a) (.int b) = decide (a = b) := by
  show (a == b) = _
  by_cases e : a = b
  · subst e; simp
  · rw [decide_eq_false e]; simpa using e
@[simp] theorem ef_si (a : Str) (b : Int) : eqF (.str a) (.int b) = false := (rfl)
@[simp] theorem ef_is (a : Str) (b : Int) : eqF (.int b) (.str a) = false := (rfl)
theorem atW_nat {ws : List W} {k : Nat} : atW ws (k : Int) = ws[k]? := by
  unfold atW
  rw [if_pos (by omega)]
  rfl
theorem atW_pos {ws : List W} {i : Int} (e : 0 ≤ i) : atW ws i = ws[i.toNat]? := by
  unfold atW
  rw [if_pos e]
@[simp] theorem at0 (ws : List W) : atW ws 0 = ws[0]? := (rfl)
@[simp] theorem at1 (ws : List W) : atW ws 1 = ws[1]? := (rfl)
@[simp] theorem at2 (ws : List W) : atW ws 2 = ws[2]? := (rfl)
@[simp] theorem at3 (ws : List W) : atW ws 3 = ws[3]? := (rfl)
@[simp] theorem at4 (ws : List W) : atW ws 4 = ws[4]? := (rfl)
@[simp] theorem at5 (ws : List W) : atW ws 5 = ws[5]? := (rfl)
@[simp] theorem at6 (ws : List W) : atW ws 6 = ws[6]? := (rfl)
@[simp] theorem at7 (ws : List W) : atW ws 7 = ws[7]? := (rfl)
@[simp] theorem at8 (ws : List W) : atW ws 8 = ws[8]? := (rfl)
@[simp] theorem at9 (ws : List W) : atW ws 9 = ws[9]? := (rfl)
/-! ### frames: all objects but those of S stay as they are -/
def Mod (s : Nat → Prop) (h h' : VH) : Prop := h.length ≤ h'.length ∧ ∀ q, (hg h q).isSome = true → ¬ s q → hg h' q = hg h q
def no : Nat → Prop := fun _ => False
@[simp] theorem no_f (q : Nat) : no q = False := (rfl)
theorem Mod.rfl {s : Nat → Prop} {h : VH} : Mod s h h := ⟨Nat.le_refl _, fun _ _ _ => Eq.refl _⟩
theorem Mod.trans {s : Nat → Prop} {h h1 h2 : VH} (a : Mod s h h1) (b : Mod s h1 h2) : Mod s h h2 :=
  ⟨Nat.le_trans a.1 b.1, fun q l n => (b.2 q (by rw [a.2 q l n]; exact l) n).trans (a.2 q l n)⟩
/-- what the second part writes, where it is older than the first part's start, is among u -/
theorem Mod.seq {s t u : Nat → Prop} {h h1 h2 : VH} (a : Mod s h h1) (b : Mod t h1 h2) (i : ∀ q, q < h.length → s q → u q) (j : ∀ q, q < h.length → t q → u q) : Mod u h h2 :=
  ⟨Nat.le_trans a.1 b.1, fun q l n => by
    have e := a.2 q l fun z => n (i q (lt_hg l) z)
    exact (b.2 q (by rw [e]; exact l) (fun z => n (j q (lt_hg l) z))).trans e⟩
theorem Mod.mono {s u : Nat → Prop} {h h1 : VH} (a : Mod s h h1) (i : ∀ q, q < h.length → s q → u q) : Mod u h h1 := ⟨a.1, fun q l n => a.2 q l fun z => n (i q (lt_hg l) z)⟩
theorem Mod.of_no {u : Nat → Prop} {h h1 : VH} (a : Mod no h h1) : Mod u h h1 := a.mono fun _ _ z => z.elim
theorem Mod.new {s : Nat → Prop} {h : VH} {o : O} : Mod s h (hn h o) := ⟨by rw [hn_len]; omega, fun q l n => hg_hn l⟩
theorem Mod.set {s : Nat → Prop} {h : VH} {r : Nat} {o : O} (e : s r) : Mod s h (hs h r o) := ⟨by rw [hs_len]; omega, fun q l n => hg_ne (fun z => n (by rw [← z]; exact e))⟩
theorem Mod.get {s : Nat → Prop} {h h' : VH} (a : Mod s h h') {q : Nat} {o : O} (e : hg h q = some o) (n : ¬ s q) : hg h' q = some o := (a.2 q (by rw [e]; rfl) n).trans e
theorem Mod.lt {s : Nat → Prop} {h h' : VH} (a : Mod s h h') {q : Nat} (e : q < h.length) : q < h'.length := Nat.lt_of_lt_of_le e a.1
theorem lt_of_get {h : VH} {q : Nat} {o : O} (e : hg h q = some o) : q < h.length := lt_hg (by rw [e]; rfl)
/-! ### loops -/
def itsL (h : VH) : Its → Option (List W)
  | .ws l => some l
  | .live r => listAt h r
theorem itAt_of {h : VH} {its : Its} {l : List W} (e : itsL h its = some l) (i : Nat) : itAt h i its = some l[i]? := by
  cases its with
  | ws l' => cases e; rfl
  | live r =>
    show (match listAt h r with | some ws => _ | none => _) = _
    have e : listAt h r = some l := e
    rw [e]
theorem itLen_of {h : VH} {its : Its} {l : List W} (e : itsL h its = some l) : itLen h its = l.length := by
  cases its with
  | ws l' => cases e; rfl
  | live r =>
    show (match listAt h r with | some ws => _ | none => _) = _
    have e : listAt h r = some l := e
    rw [e]
theorem listAt_of {h : VH} {r : Nat} {l : List W} (e : hg h r = some (.lst l)) : listAt h r = some l := by
  unfold listAt
  have e : h[r]? = _ := e
  rw [e]
def After (I : Env → VH → Prop) (Q : Fl → Env → VH → Prop) : Fl → Env → VH → Prop
  | .nx, e, h => I e h
  | .ct, e, h => I e h
  | .bk, e, h => Q .nx e h
  | .rt v, e, h => Q (.rt v) e h
@[simp] theorem aft_nx (I : Env → VH → Prop) (Q : Fl → Env → VH → Prop) (e : Env) (h : VH) : After I Q .nx e h = I e h := (rfl)
@[simp] theorem aft_ct (I : Env → VH → Prop) (Q : Fl → Env → VH → Prop) (e : Env) (h : VH) : After I Q .ct e h = I e h := (rfl)
@[simp] theorem aft_bk (I : Env → VH → Prop) (Q : Fl → Env → VH → Prop) (e : Env) (h : VH) : After I Q .bk e h = Q .nx e h := (rfl)
@[simp] theorem aft_rt (I : Env → VH → Prop) (Q : Fl → Env → VH → Prop) (v : W) (e : Env) (h : VH) : After I Q (.rt v) e h = Q (.rt v) e h := (rfl)
theorem for_run {its : Its} {f : W → Env → VH → R (Fl × Env)} {l : List W} {I : Nat → Env → VH → Prop} {Q : Fl → Env → VH → Prop}
    (hl : ∀ i env h, I i env h → itsL h its = some l) (he : ∀ env h, I l.length env h → Q .nx env h)
    (hs : ∀ i w env h, l[i]? = some w → I i env h → Run (f w env h) fun r h' => After (I (i + 1)) Q r.1 r.2 h') :
    ∀ (n i : Nat) (env : Env) (h : VH), I i env h → i + n = l.length + 1 → i ≤ l.length → Run (forRun its f n i env h) fun r h' => Q r.1 r.2 h'
  | 0, i, env, h, hi, hn, hk => absurd hn (by omega)
  | n + 1, i, env, h, hi, hn, hk => by
    unfold forRun
    rw [itAt_of (hl i env h hi)]
    cases hw : l[i]? with
    | none =>
      have : l.length ≤ i := List.getElem?_eq_none_iff.mp hw
      have e : i = l.length := by omega
      subst e
      exact ⟨_, _, rfl, he _ _ hi⟩
    | some w =>
      obtain ⟨⟨fl, e'⟩, h', q1, q2⟩ := hs i w env h hw hi
      have lt := (List.getElem?_eq_some_iff.mp hw).1
      show Run ((f w env h).bind _) _
      rw [q1]
      cases fl with
      | nx => exact for_run hl he hs n (i + 1) e' h' q2 (by omega) (by omega)
      | ct => exact for_run hl he hs n (i + 1) e' h' q2 (by omega) (by omega)
      | bk => exact ⟨_, _, rfl, q2⟩
      | rt v => exact ⟨_, _, rfl, q2⟩
/-- a for: I over the turns done; Q what is left behind -/
theorem for_inv (l : List W) (I : Nat → Env → VH → Prop) (Q : Fl → Env → VH → Prop) {its : Its} {f : W → Env → VH → R (Fl × Env)} {env : Env} {h : VH} (h0 : I 0 env h)
    (hl : ∀ i env h, I i env h → itsL h its = some l) (he : ∀ env h, I l.length env h → Q .nx env h)
    (hs : ∀ i w env h, l[i]? = some w → I i env h → Run (f w env h) fun r h' => After (I (i + 1)) Q r.1 r.2 h') :
    Run (forK f env its h) fun r h' => Q r.1 r.2 h' := by
  unfold forK
  rw [itLen_of (hl _ _ _ h0)]
  exact for_run hl he hs _ 0 env h h0 (by omega) (by omega)
/-- a for without break and return -/
theorem for_all (l : List W) (I : Nat → Env → VH → Prop) {its : Its} {f : W → Env → VH → R (Fl × Env)} {env : Env} {h : VH} (h0 : I 0 env h)
    (hl : ∀ i env h, I i env h → itsL h its = some l)
    (hs : ∀ i w env h, l[i]? = some w → I i env h → Run (f w env h) fun r h' => r.1 = .nx ∧ I (i + 1) r.2 h') :
    Run (forK f env its h) fun r h' => r.1 = .nx ∧ I l.length r.2 h' :=
  for_inv l I (fun fl e h => fl = .nx ∧ I l.length e h) h0 hl (fun _ _ a => ⟨rfl, a⟩) fun i w env h hw a => (hs i w env h hw a).imp fun r h' ⟨q1, q2⟩ => by
    rcases r with ⟨fl, e⟩
    cases q1
    exact q2
theorem lc_run {its : Its} {f : W → VH → R (Option W)} {l : List W} {I : Nat → List W → VH → Prop} (hlen : l.length ≤ line)
    (hl : ∀ i acc h, I i acc h → itsL h its = some l)
    (hs : ∀ i w acc h, l[i]? = some w → I i acc h → Run (f w h) fun r h' => I (i + 1) (acc ++ r.toList) h') :
    ∀ (n i : Nat) (acc : List W) (h : VH), I i acc h → i + n = l.length + 1 → i ≤ l.length → acc.length ≤ i → Run (lcRun its f n i acc h) fun acc' h' => I l.length acc' h' ∧ acc'.length ≤ l.length
  | 0, i, acc, h, hi, hn, hk, ha => absurd hn (by omega)
  | n + 1, i, acc, h, hi, hn, hk, ha => by
    unfold lcRun
    rw [itAt_of (hl i acc h hi)]
    cases hw : l[i]? with
    | none =>
      have : l.length ≤ i := List.getElem?_eq_none_iff.mp hw
      have e : i = l.length := by omega
      subst e
      exact ⟨_, _, rfl, hi, ha⟩
    | some w =>
      obtain ⟨r, h', q1, q2⟩ := hs i w acc h hw hi
      have lt := (List.getElem?_eq_some_iff.mp hw).1
      show Run ((f w h).bind _) _
      rw [q1]
      cases r with
      | none =>
        simp only [Option.toList, List.append_nil] at q2
        exact lc_run hlen hl hs n (i + 1) acc h' q2 (by omega) (by omega) (by omega)
      | some x =>
        have q := lc_run hlen hl hs n (i + 1) (acc ++ [x]) h' q2 (by omega) (by omega) (by simp; omega)
        show Run (if acc.length < line then _ else _) _
        rw [if_pos (by omega)]
        exact q
/-- a comprehension: I over the turns done, what is gathered -/
theorem lc_inv (l : List W) (I : Nat → List W → VH → Prop) {its : Its} {f : W → VH → R (Option W)} {h : VH} (h0 : I 0 [] h) (hlen : l.length ≤ 16777216)
    (hl : ∀ i acc h, I i acc h → itsL h its = some l)
    (hs : ∀ i w acc h, l[i]? = some w → I i acc h → Run (f w h) fun r h' => I (i + 1) (acc ++ r.toList) h') :
    Run (itK its f h) fun acc' h' => I l.length acc' h' ∧ acc'.length ≤ l.length := by
  unfold itK
  rw [itLen_of (hl _ _ _ h0)]
  exact lc_run hlen hl hs _ 0 [] h h0 (by omega) (by omega) (by simp)
theorem filterMap_take {l : List W} {g : W → Option W} {i : Nat} {w : W} (e : l[i]? = some w) : (l.take (i + 1)).filterMap g = (l.take i).filterMap g ++ (g w).toList := by
  rw [List.take_add_one, List.filterMap_append, e]
  cases hg : g w <;> simp [Option.toList, hg]
theorem itsL_mod {s : Nat → Prop} {h h1 : VH} {its : Its} {l : List W} (hl : itsL h its = some l) (m : Mod s h h1) (n : ∀ r, its = .live r → ¬ s r) : itsL h1 its = some l := by
  cases its with
  | ws l' => exact hl
  | live r =>
    have hl' : listAt h r = some l := hl
    have e : hg h r = some (.lst l) := by
      unfold listAt at hl'
      split at hl'
      · rename_i e; cases hl'; exact e
      · cases hl'
    exact listAt_of (m.get e (n r rfl))
/-- a comprehension whose turns write nothing old: what g says of each -/
theorem lc_pure (l : List W) (g : W → Option W) {its : Its} {f : W → VH → R (Option W)} {h : VH} (hl : itsL h its = some l) (hlen : l.length ≤ 16777216)
    (hs : ∀ w h1, w ∈ l → Mod no h h1 → Run (f w h1) fun r h' => r = g w ∧ Mod no h1 h') : Run (itK its f h) fun acc h' => acc = l.filterMap g ∧ Mod no h h' := by
  refine (lc_inv l (fun i acc h1 => acc = (l.take i).filterMap g ∧ Mod no h h1) (its := its) (f := f) (h := h) ⟨by simp, .rfl⟩ hlen (fun i acc h1 ⟨_, m⟩ => itsL_mod hl m (fun _ _ z => z)) (fun i w acc h1 hw ⟨e, m⟩ => ?_)).imp ?_
  · refine (hs w h1 (List.mem_of_getElem? hw) m).imp fun r h' ⟨p1, p2⟩ => ⟨?_, m.trans p2⟩
    rw [e, p1, filterMap_take hw]
  · rintro acc h' ⟨⟨q2, q3⟩, q4⟩
    rw [List.take_length] at q2
    exact ⟨q2, q3⟩
theorem filterMap_some' (l : List W) (g : W → W) : l.filterMap (fun w => some (g w)) = l.map g := by
  induction l with
  | nil => rfl
  | cons a l ih => simp [ih]
theorem lc_map (l : List W) (g : W → W) {its : Its} {f : W → VH → R (Option W)} {h : VH} (hl : itsL h its = some l) (hlen : l.length ≤ 16777216)
    (hs : ∀ w h1, w ∈ l → Mod no h h1 → Run (f w h1) fun r h' => r = some (g w) ∧ Mod no h1 h') : Run (itK its f h) fun acc h' => acc = l.map g ∧ Mod no h h' := by
  rw [← filterMap_some' l g]
  exact lc_pure l _ hl hlen hs
/-- a comprehension over what stands for xs -/
theorem lc_filx {α : Type} (xs : List α) (f' : α → W) (g : α → Option W) {its : Its} {f : W → VH → R (Option W)} {h : VH} (hl : itsL h its = some (xs.map f')) (hlen : xs.length ≤ 16777216)
    (hs : ∀ x h1, x ∈ xs → Mod no h h1 → Run (f (f' x) h1) fun r h' => r = g x ∧ Mod no h1 h') : Run (itK its f h) fun acc h' => acc = xs.filterMap g ∧ Mod no h h' := by
  refine (lc_inv (xs.map f') (fun i acc h1 => acc = (xs.take i).filterMap g ∧ Mod no h h1) (its := its) (f := f) (h := h) ⟨by simp, .rfl⟩ (by simpa using hlen) (fun i acc h1 ⟨_, m⟩ => itsL_mod hl m (fun _ _ z => z)) (fun i w acc h1 hw ⟨e, m⟩ => ?_)).imp ?_
  · rw [List.getElem?_map] at hw
    cases hx : xs[i]? with
    | none => rw [hx] at hw; cases hw
    | some x =>
      rw [hx] at hw
      cases hw
      refine (hs x h1 (List.mem_of_getElem? hx) m).imp fun r h' ⟨p1, p2⟩ => ⟨?_, m.trans p2⟩
      rw [e, p1, List.take_add_one, List.filterMap_append, hx]
      cases hg : g x <;> simp [Option.toList, hg]
  · rintro acc h' ⟨⟨q2, q3⟩, q4⟩
    rw [List.length_map, List.take_length] at q2
    exact ⟨q2, q3⟩
theorem lc_mapx {α : Type} (xs : List α) (f' : α → W) (g : α → W) {its : Its} {f : W → VH → R (Option W)} {h : VH} (hl : itsL h its = some (xs.map f')) (hlen : xs.length ≤ 16777216)
    (hs : ∀ x h1, x ∈ xs → Mod no h h1 → Run (f (f' x) h1) fun r h' => r = some (g x) ∧ Mod no h1 h') : Run (itK its f h) fun acc h' => acc = xs.map g ∧ Mod no h h' := by
  have e : xs.map g = xs.filterMap fun x => some (g x) := by
    clear hs hl hlen
    induction xs with
    | nil => rfl
    | cons a l ih => simp
  rw [e]
  exact lc_filx xs f' _ hl hlen hs
theorem range_at {lo hi : Int} {i : Nat} {w : W} (e : (rangeW lo hi)[i]? = some w) : w = .int (lo + i) ∧ lo + i < hi := by
  unfold rangeW at e
  rw [List.getElem?_map] at e
  cases hh : (List.range (hi - lo).toNat)[i]? with
  | none => rw [hh] at e; cases e
  | some k =>
    rw [hh] at e
    obtain ⟨lt, ek⟩ := List.getElem?_eq_some_iff.mp hh
    rw [List.length_range] at lt
    rw [List.getElem_range] at ek
    subst ek
    cases e
    exact ⟨rfl, by omega⟩
theorem range_len {lo hi : Int} : (rangeW lo hi).length = (hi - lo).toNat := by simp [rangeW]
end Nw

set_option Elab.async false
set_option linter.all false
set_option maxRecDepth 100000
set_option maxHeartbeats 4000000
/-! Nw, part L: equal data. -/
namespace Nw
open PySem PySem.Spec PyProof.Rows L2
/-- data without refs, n deep -/
def layW : Nat → W → Bool
  | _, .non => true
  | _, .bl _ => true
  | _, .int _ => true
  | _, .str s => s.cps.all (· < 0x110000)
  | n + 1, .tup ws => ws.all (layW n)
  | _, _ => false
@[simp] theorem lay_n (n : Nat) : layW n .non = true := by cases n <;> rfl
@[simp] theorem lay_b (n : Nat) (b : Bool) : layW n (.bl b) = true := by cases n <;> rfl
@[simp] theorem lay_i (n : Nat) (i : Int) : layW n (.int i) = true := by cases n <;> rfl
@[simp] theorem lay_s (n : Nat) (s : List Nat) : layW n (.str (S s)) = s.all (· < 0x110000) := by cases n <;> simp [layW, S]
@[simp] theorem lay_t (n : Nat) (ws : List W) : layW (n + 1) (.tup ws) = ws.all (layW n) := rfl
theorem lays_dat {n : Nat} (f : ∀ w, layW n w = true → ∃ d, datP w = some d ∧ d.canLay0 = true ∧ d.depth ≤ n) : ∀ ws : List W, ws.all (layW n) = true → ∃ ds, datPs ws = some ds ∧ PyData.canLayAll0 ds = true ∧ PyData.depthAll ds ≤ n
  | [], _ => ⟨[], rfl, rfl, Nat.zero_le _⟩
  | w :: ws, h => by
    simp only [List.all_cons, Bool.and_eq_true] at h
    obtain ⟨d, d1, d2, d3⟩ := f w h.1
    obtain ⟨ds, e1, e2, e3⟩ := lays_dat f ws h.2
    refine ⟨d :: ds, by simp [datPs, d1, e1], by simp [PyData.canLayAll0, d2, e2], ?_⟩
    simp only [PyData.depthAll]
    omega
theorem lay_dat : ∀ (n : Nat) (w : W), layW n w = true → ∃ d, datP w = some d ∧ d.canLay0 = true ∧ d.depth ≤ n
  | n, .non, _ => ⟨_, rfl, rfl, Nat.zero_le _⟩
  | n, .bl b, _ => ⟨_, rfl, rfl, Nat.zero_le _⟩
  | n, .int i, _ => ⟨_, rfl, rfl, Nat.zero_le _⟩
  | n, .str s, h => by
    have h' : s.cps.all (· < 0x110000) = true := by cases n <;> exact h
    exact ⟨.str s, by simp only [datP, h', if_true], h', Nat.zero_le _⟩
  | n + 1, .tup ws, h => by
    obtain ⟨ds, e1, e2, e3⟩ := lays_dat (lay_dat n) ws h
    refine ⟨.tuple ds, by simp [datP, e1], e2, ?_⟩
    simp only [PyData.depth]
    omega
  | 0, .tup ws, h => by cases h
  | 0, .rol ws, h => by cases h
  | _ + 1, .rol ws, h => by cases h
  | 0, .ref ws, h => by cases h
  | _ + 1, .ref ws, h => by cases h
theorem allSome_of {α β : Type} {f g : α → Option β} : ∀ {l : List α} {ds : List β}, (∀ a ∈ l, ∀ d, g a = some d → f a = some d) → allSome g l = some ds → allSome f l = some ds
  | [], _, _, h => h
  | a :: l, ds, hf, h => by
    unfold allSome at h ⊢
    cases ha : g a with
    | none => rw [ha] at h; cases h
    | some d =>
      cases hr : allSome g l with
      | none => rw [ha, hr] at h; cases h
      | some ds' =>
        rw [ha, hr] at h
        rw [hf a (List.mem_cons_self ..) d ha, allSome_of (fun a m d e => hf a (List.mem_cons_of_mem _ m) d e) hr]
        exact h
theorem datPs_all : ∀ ws : List W, datPs ws = allSome datP ws
  | [] => rfl
  | w :: ws => by
    unfold datPs allSome
    rw [datPs_all ws]
    cases datP w <;> cases allSome datP ws <;> rfl
/-- what has no ref is the same in each heap -/
theorem datW_P (h : VH) : ∀ (n : Nat) (w : W) (d : PyData), datP w = some d → datW h n w = some d
  | 0, w, d, e => e
  | n + 1, .non, d, e => e
  | n + 1, .bl b, d, e => e
  | n + 1, .int b, d, e => e
  | n + 1, .str b, d, e => e
  | n + 1, .tup ws, d, e => by
    simp only [datP, datPs_all] at e
    show (allSome (datW h n) ws).map _ = _
    cases hr : allSome datP ws with
    | none => rw [hr] at e; cases e
    | some ds => rw [hr] at e; rw [allSome_of (fun a _ d q => datW_P h n a d q) hr]; exact e
  | n + 1, .rol ws, d, e => by
    simp only [datP, datPs_all] at e
    show (allSome (datW h n) ws).map _ = _
    cases hr : allSome datP ws with
    | none => rw [hr] at e; cases e
    | some ds => rw [hr] at e; rw [allSome_of (fun a _ d q => datW_P h n a d q) hr]; exact e
  | n + 1, .ref r, d, e => by cases e
theorem shaped_of' {d : PyData} (h1 : d.canLay0 = true) (h2 : d.depth ≤ 60) : SeqAt.shaped d = true := by
  unfold SeqAt.shaped
  rw [h1, decide_eq_true (by omega)]; rfl
theorem eqD_self {h : VH} {w : W} (l : layW 50 w = true) : eqD h w w = some true := by
  obtain ⟨d, e1, e2, e3⟩ := lay_dat 50 w l
  unfold eqD
  rw [datW_P h 12 w d e1]
  have := shaped_of' e2 (by omega)
  show (if _ then _ else _) = _
  rw [if_pos ⟨this, this⟩, SeqAt.eqv_refl d e2]
theorem eqW_tup {h : VH} {ws : List W} (l : ws.all (layW 49) = true) : eqW h (.tup ws) (.tup ws) = some true := eqD_self (h := h) (w := .tup ws) l
theorem dat_lst {h : VH} {a : Nat} {ws : List W} (l : ws.all (layW 50) = true) (ha : hg h a = some (.lst ws)) : ∃ ds, datW h 12 (.ref a) = some (.list ds) ∧ datPs ws = some ds ∧ PyData.canLayAll0 ds = true ∧ PyData.depthAll ds ≤ 50 := by
  obtain ⟨ds, e1, e2, e3⟩ := lays_dat (lay_dat 50) ws l
  refine ⟨ds, ?_, e1, e2, e3⟩
  show (match listAt h a with | some ws => (allSome (datW h 11) ws).map PyData.list | none => none) = _
  rw [listAt_of ha]
  rw [datPs_all] at e1
  show (allSome (datW h 11) ws).map PyData.list = _
  rw [allSome_of (fun a _ d q => datW_P h 11 a d q) e1]
  rfl
theorem eqW_lst {h : VH} {a b : Nat} {ws : List W} (l : ws.all (layW 50) = true) (ha : hg h a = some (.lst ws)) (hb : hg h b = some (.lst ws)) : eqW h (.ref a) (.ref b) = some true := by
  obtain ⟨ds, e1, e2, e3, e4⟩ := dat_lst l ha
  obtain ⟨ds', f1, f2, _⟩ := dat_lst l hb
  rw [e2] at f2
  cases f2
  show eqD h _ _ = _
  unfold eqD
  rw [e1, f1]
  have : SeqAt.shaped (.list ds) = true := shaped_of' e3 (by simp only [PyData.depth]; omega)
  show (if _ then _ else _) = _
  rw [if_pos ⟨this, this⟩, SeqAt.eqv_refl (.list ds) e3]
theorem hg_new' {h : VH} {o : O} : hg (hn h o) (nx h 0) = some o := by simp
theorem lc_none {l : List W} {its : Its} {f : W → VH → R (Option W)} {h : VH} (hl : itsL h its = some l) (hlen : l.length ≤ 16777216)
    (hs : ∀ (i : Nat) (w : W) (h1 : VH), l[i]? = some w → Mod no h h1 → Run (f w h1) fun r h' => r = none ∧ Mod no h1 h') : Run (itK its f h) fun acc h' => acc = [] ∧ Mod no h h' := by
  refine (lc_inv l (fun i acc h1 => acc = [] ∧ Mod no h h1) (its := its) (f := f) (h := h) ⟨rfl, .rfl⟩ hlen (fun i acc h1 ⟨_, m⟩ => itsL_mod hl m (fun _ _ z => z)) (fun i w acc h1 hw ⟨e, m⟩ => ?_)).imp ?_
  · refine (hs i w h1 hw m).imp fun r h' ⟨p1, p2⟩ => ⟨?_, m.trans p2⟩
    rw [e, p1]; rfl
  · rintro acc h' ⟨⟨q2, q3⟩, q4⟩
    exact ⟨q2, q3⟩
theorem z_itl' {h : VH} {r : Nat} {x : List W} (e : hg h r = some (.lst x)) : itsL h (.live r) = some x := listAt_of e
@[simp] theorem strW_S (l : List Nat) : strW (S l) = l.map fun c => .str (S [c]) := by
  unfold strW S
  simp
@[simp] theorem len_S (l : List Nat) : (S l).length = l.length := by
  show (l.toArray).size = _
  simp
@[simp] theorem is_t (h : VH) (ws : List W) : isiW h .tuple (.tup ws) = some true := (rfl)
@[simp] theorem is_l (h : VH) (ws : List W) : isiW h .list (.tup ws) = some false := (rfl)
@[simp] theorem is_s (h : VH) (s : Str) : isiW h .str (.str s) = some true := (rfl)
@[simp] theorem is_i (h : VH) (i : Int) : isiW h .int (.int i) = some true := (rfl)
@[simp] theorem is_b (h : VH) (i : Int) : isiW h .bool (.int i) = some false := (rfl)
def inO (h : VH) (a : W) : Option O → Option Bool
  | some (.dct kvs) => (keyW a).map fun k => (dget kvs k).isSome
  | some (.lst ws) => inL h a ws
  | _ => none
@[simp] theorem o_in (h : VH) (s : Str) (kvs : List (Key × W)) : inO h (.str s) (some (.dct kvs)) = some (dget kvs (.inr s)).isSome := (rfl)
@[simp] theorem o_in2 (h : VH) (s : Int) (kvs : List (Key × W)) : inO h (.int s) (some (.dct kvs)) = some (dget kvs (.inl s)).isSome := (rfl)
@[simp] theorem z_inr (h : VH) (a : W) (r : Nat) : inW h a (.ref r) = inO h a (hg h r) := by
  show (match hg h r with | some (.dct kvs) => _ | some (.lst ws) => _ | _ => _) = _
  cases hg h r with
  | none => rfl
  | some o => cases o <;> rfl
@[simp] theorem cut_1 {α : Type} (a : α) (l : List α) : cut (a :: l) (some 1) none = l := by
  unfold cut
  have e : HT.sIx (a :: l).length 0 (some 1) = 1 := by simp [HT.sIx]
  rw [e]
  simp [HT.sIx]
@[simp] theorem cut_2 {α : Type} (a b : α) (l : List α) : cut (a :: b :: l) (some 2) none = l := by
  unfold cut
  have e : HT.sIx (a :: b :: l).length 0 (some 2) = 2 := by simp [HT.sIx]
  rw [e]
  simp [HT.sIx]
theorem cut_to {α : Type} (l : List α) {k : Int} (h : 0 ≤ k) : cut l none (some k) = l.take k.toNat := by
  unfold cut
  have e : HT.sIx l.length l.length (some k) = min k.toNat l.length := by simp [HT.sIx]; omega
  rw [e]
  simp [HT.sIx, List.take_eq_take_min]
theorem cut_from {α : Type} (l : List α) {k : Int} (h : 0 ≤ k) : cut l (some k) none = l.drop k.toNat := by
  unfold cut
  have e : HT.sIx l.length 0 (some k) = min k.toNat l.length := by simp [HT.sIx]; omega
  rw [e]
  have e2 : HT.sIx l.length l.length none = l.length := rfl
  rw [e2]
  by_cases c : k.toNat ≤ l.length
  · rw [Nat.min_eq_left c]
    exact List.take_of_length_le (by simp)
  · rw [Nat.min_eq_right (by omega), List.drop_eq_nil_of_le (Nat.le_refl _), List.drop_eq_nil_of_le (by omega)]
    simp
/-! ### a body cut in two -/
theorem ev_app (C : Cfg) : ∀ (a b : List Sm) (env : Env) (h : VH), evSs C (a ++ b) env h = (evSs C a env h).bind (k_ss C b)
  | [], b, env, h => rfl
  | s :: a, b, env, h => by
    rw [List.cons_append, x_ssc, x_ssc]
    cases evS C s env h with
    | bad => rfl
    | ok r h1 =>
      rcases r with ⟨fl, e⟩
      cases fl with
      | nx =>
        show evSs C (a ++ b) e h1 = (evSs C a e h1).bind (k_ss C b)
        exact ev_app C a b e h1
      | _ => rfl
theorem run_cut (k : Nat) {α : Type} {C : Cfg} {b : List Sm} {env : Env} {h : VH} {K : Fl × Env → VH → R α} {Q : α → VH → Prop} (P : Env → VH → Prop) (h1 : Run (evSs C (b.take k) env h) fun r h' => r.1 = .nx ∧ P r.2 h') (h2 : ∀ e h', P e h' → Run ((evSs C (b.drop k) e h').bind K) Q) : Run ((evSs C b env h).bind K) Q := by
  rw [← List.take_append_drop k b, ev_app]
  obtain ⟨⟨fl, e⟩, h', q1, q2, q3⟩ := h1
  cases q2
  rw [q1]
  simpa using h2 e h' q3
/-- a cut where the first part may give back -/
theorem run_cutR (k : Nat) {α : Type} {C : Cfg} {b : List Sm} {env : Env} {h : VH} {K : Fl × Env → VH → R α} {Q : α → VH → Prop} (P : Env → VH → Prop) (h1 : Run (evSs C (b.take k) env h) fun r h' => (r.1 = .nx ∧ P r.2 h') ∨ ((∃ v, r.1 = .rt v) ∧ Run (K r h') Q)) (h2 : ∀ e h', P e h' → Run ((evSs C (b.drop k) e h').bind K) Q) : Run ((evSs C b env h).bind K) Q := by
  rw [← List.take_append_drop k b, ev_app]
  obtain ⟨⟨fl, e⟩, h', q1, ⟨q2, q3⟩ | ⟨⟨v, q2⟩, q3⟩⟩ := h1
  · cases q2
    rw [q1]
    simpa using h2 e h' q3
  · cases q2
    rw [q1]
    exact q3
theorem run_cut' (k : Nat) {C : Cfg} {b : List Sm} {env : Env} {h : VH} {Q : Fl × Env → VH → Prop} (P : Env → VH → Prop) (h1 : Run (evSs C (b.take k) env h) fun r h' => r.1 = .nx ∧ P r.2 h') (h2 : ∀ e h', P e h' → Run (evSs C (b.drop k) e h') Q) : Run (evSs C b env h) Q := by
  rw [← List.take_append_drop k b, ev_app]
  obtain ⟨⟨fl, e⟩, h', q1, q2, q3⟩ := h1
  cases q2
  rw [q1]
  simpa using h2 e h' q3
end Nw

set_option Elab.async false
set_option linter.all false
set_option maxRecDepth 100000
set_option maxHeartbeats 4000000
/-! The machine of guests: instructions, states, steps (no program). -/
namespace Nw
open PySem PySem.Spec PyProof.Rows L2
inductive Ins where
  | fin (s : Str) | set (r n : Int) | high (r n : Int) | op (s : Str) (d a b : Int) | load (r b n : Int) | store (r b n : Int) | go (n : Int) | unl (r n : Int) | call (r n : Int) | back (r : Int)
  | send (p r : Int) | ask (r p : Int) | take (r p : Int) | time (r : Int) | rest
abbrev signs : List Str := [(S [43]), (S [45]), (S [42]), (S [47]), (S [64]), (S [38]), (S [124]), (S [94]), (S [61, 61]), (S [60]), (S [60, 60]), (S [62, 62])]
def insL : Ins → List W
  | .fin s => [.str (S [101, 110, 100]), .str s]
  | .set r n => [.str (S [115, 101, 116]), .int r, .int n]
  | .high r n => [.str (S [104, 105, 103, 104]), .int r, .int n]
  | .op s d a b => [.str (S [111, 112]), .str s, .int d, .int a, .int b]
  | .load r b n => [.str (S [108, 111, 97, 100]), .int r, .int b, .int n]
  | .store r b n => [.str (S [115, 116, 111, 114, 101]), .int r, .int b, .int n]
  | .go n => [.str (S [103, 111]), .int n]
  | .unl r n => [.str (S [117, 110, 108, 101, 115, 115]), .int r, .int n]
  | .call r n => [.str (S [99, 97, 108, 108]), .int r, .int n]
  | .back r => [.str (S [98, 97, 99, 107]), .int r]
  | .send p r => [.str (S [115, 101, 110, 100]), .int p, .int r]
  | .ask r p => [.str (S [97, 115, 107]), .int r, .int p]
  | .take r p => [.str (S [116, 97, 107, 101]), .int r, .int p]
  | .time r => [.str (S [116, 105, 109, 101]), .int r]
  | .rest => [.str (S [114, 101, 115, 116])]
def insW (i : Ins) : W := .tup (insL i)
def isR (r : Int) : Prop := 0 ≤ r ∧ r < 8
def isN (r : Int) : Prop := 0 ≤ r ∧ r < 65536
def InsOk : Ins → Prop
  | .fin s => s = (S [100, 111, 110, 101]) ∨ s = (S [98, 111, 117, 110, 100])
  | .set r n => isR r ∧ isN n
  | .high r n => isR r ∧ isN n
  | .op s d a b => s ∈ signs ∧ isR d ∧ isR a ∧ isR b
  | .load r b n => isR r ∧ isR b ∧ isN n
  | .store r b n => isR r ∧ isR b ∧ isN n
  | .go n => isN n
  | .unl r n => isR r ∧ isN n
  | .call r n => isR r ∧ isN n
  | .back r => isR r
  | .send p r => isR p ∧ isR r
  | .ask r p => isR r ∧ isR p
  | .take r p => isR r ∧ isR p
  | .time r => isR r
  | .rest => True
abbrev two32 : Int := 4294967296
def isW (v : Int) : Prop := 0 ≤ v ∧ v < 4294967296
def opI (s : Str) (a b : Int) : Int :=
  if s = (S [43]) then (a + b) % 4294967296 else if s = (S [45]) then (a - b) % 4294967296 else if s = (S [42]) then (a * b) % 4294967296
  else if s = (S [47]) then (if b = 0 then 0 else a / b) else if s = (S [38]) then Builtin.bitAnd a b else if s = (S [124]) then Builtin.bitOr a b else if s = (S [94]) then Builtin.bitXor a b
  else if s = (S [61, 61]) then (if a = b then 1 else 0) else if s = (S [60]) then (if a < b then 1 else 0)
  else if s = (S [60, 60]) then (if 31 < b then 0 else a * 2 ^ b.toNat % 4294967296) else if s = (S [62, 62]) then (if 31 < b then 0 else a / 2 ^ b.toNat)
  else if b = 0 then a else a % b
@[simp] theorem z_band (h : VH) (i j : Int) : binW .band (.int i) (.int j) h = .ok (.int (Builtin.bitAnd i j)) h := (rfl)
@[simp] theorem z_bor (h : VH) (i j : Int) : binW .bor (.int i) (.int j) h = .ok (.int (Builtin.bitOr i j)) h := (rfl)
@[simp] theorem z_bxor (h : VH) (i j : Int) : binW .bxor (.int i) (.int j) h = .ok (.int (Builtin.bitXor i j)) h := (rfl)
theorem z_shl {h : VH} {i j : Int} (e : 0 ≤ j) (e1 : j ≤ 1000) (e2 : i.natAbs < 1152921504606846976) : binW .shl (.int i) (.int j) h = .ok (.int (i * 2 ^ j.toNat)) h := by
  have q : binI .shl i j = some (i * 2 ^ j.toNat) := if_pos ⟨e, e1, e2⟩
  show (match binI .shl i j with | some k => _ | none => _) = _
  rw [q]
theorem z_shr {h : VH} {i j : Int} (e : 0 ≤ j) : binW .shr (.int i) (.int j) h = .ok (.int (i / 2 ^ j.toNat)) h := by
  have q : binI .shr i j = some (i / 2 ^ j.toNat) := if_pos e
  show (match binI .shr i j with | some k => _ | none => _) = _
  rw [q]
theorem and_w {a b : Int} (ha : isW a) (hb : isW b) : Builtin.bitAnd a b = ((a.toNat &&& b.toNat : Nat) : Int) := by
  unfold Builtin.bitAnd
  rw [show decide (0 ≤ a) = true from decide_eq_true ha.1, show decide (0 ≤ b) = true from decide_eq_true hb.1]
theorem or_w {a b : Int} (ha : isW a) (hb : isW b) : Builtin.bitOr a b = ((a.toNat ||| b.toNat : Nat) : Int) := by
  obtain ⟨a0, a1⟩ := ha
  obtain ⟨b0, b1⟩ := hb
  unfold Builtin.bitOr Builtin.bitAnd
  rw [show decide (0 ≤ Builtin.bitNot a) = false from decide_eq_false (by unfold Builtin.bitNot; omega), show decide (0 ≤ Builtin.bitNot b) = false from decide_eq_false (by unfold Builtin.bitNot; omega)]
  show Builtin.bitNot (Builtin.bitNot _) = _
  have e1 : Builtin.bitNot (Builtin.bitNot a) = a := by unfold Builtin.bitNot; omega
  have e2 : Builtin.bitNot (Builtin.bitNot b) = b := by unfold Builtin.bitNot; omega
  rw [e1, e2]
  unfold Builtin.bitNot
  omega
theorem isW_nat {k : Nat} (h : k < 2 ^ 32) : isW (k : Int) := ⟨by omega, by omega⟩
theorem isW_or {a b : Int} (ha : isW a) (hb : isW b) : isW (Builtin.bitOr a b) := by
  rw [or_w ha hb]
  obtain ⟨a0, a1⟩ := ha
  obtain ⟨b0, b1⟩ := hb
  exact isW_nat (Nat.or_lt_two_pow (by omega) (by omega))
theorem isW_and {a b : Int} (ha : isW a) (hb : isW b) : isW (Builtin.bitAnd a b) := by
  rw [and_w ha hb]
  obtain ⟨a0, a1⟩ := ha
  exact isW_nat (Nat.lt_of_le_of_lt Nat.and_le_left (by omega))
theorem isW_xor {a b : Int} (ha : isW a) (hb : isW b) : isW (Builtin.bitXor a b) := by
  have h1 := isW_or ha hb
  have h2 := isW_and ha hb
  unfold Builtin.bitXor
  rw [or_w ha hb, and_w ha hb] at *
  have : a.toNat &&& b.toNat ≤ a.toNat ||| b.toNat := Nat.le_trans Nat.and_le_left Nat.left_le_or
  exact ⟨by omega, by have := h1.2; have := h2.1; omega⟩
theorem isW_mod (a : Int) : isW (a % 4294967296) := ⟨by omega, by omega⟩
theorem isW_ite {c : Prop} [Decidable c] {a b : Int} (ha : isW a) (hb : isW b) : isW (if c then a else b) := by split <;> assumption
theorem isW_div {a b : Int} (ha : isW a) (hb : 0 ≤ b) : isW (a / b) := by
  refine ⟨Int.ediv_nonneg ha.1 hb, ?_⟩
  have := Int.ediv_le_self b ha.1
  have := ha.2
  omega
theorem opI_w {s : Str} {a b : Int} (ha : isW a) (hb : isW b) : isW (opI s a b) := by
  unfold opI
  have z : isW 0 := ⟨by omega, by omega⟩
  have o : isW 1 := ⟨by omega, by omega⟩
  have md : isW (if b = 0 then a else a % b) := by
    split
    · exact ha
    · have b0 := hb.1
      exact ⟨Int.emod_nonneg _ (by omega), by have := Int.emod_lt_of_pos a (show 0 < b by omega); have := hb.2; omega⟩
  exact isW_ite (isW_mod _) (isW_ite (isW_mod _) (isW_ite (isW_mod _) (isW_ite (isW_ite z (isW_div ha hb.1)) (isW_ite (isW_and ha hb) (isW_ite (isW_or ha hb) (isW_ite (isW_xor ha hb) (isW_ite (isW_ite o z) (isW_ite (isW_ite o z) (isW_ite (isW_ite z (isW_mod _)) (isW_ite (isW_ite z (isW_div ha (by exact Int.le_of_lt (Int.pow_pos (by omega)))))
    md))))))))))
/-- the machine's state -/
structure MS where
  mem : List Int
  regs : List Int
  at_ : Int
  given : Nat
  deeds : List W
  word : Str
  done : Int
  met : List W
abbrev keysM : List Key := [.inr (S [99, 111, 100, 101]), .inr (S [109, 101, 109, 111, 114, 121]), .inr (S [98, 97, 115, 101]), .inr (S [114, 101, 103, 115]), .inr (S [97, 116]), .inr (S [97, 110, 115, 119, 101, 114, 115]), .inr (S [103, 105, 118, 101, 110]), .inr (S [100, 101, 101, 100, 115]), .inr (S [119, 111, 114, 100]), .inr (S [100, 111, 110, 101]), .inr (S [109, 101, 116])]
/-- further entries of the machine's dict -/
structure Ext where
  l : List (Key × W)
  ok : ∀ p ∈ l, p.1 ∉ keysM
  len : l.length < 100
def Ext.nil : Ext := ⟨[], by simp, by simp⟩
@[simp] theorem ext_nil : Ext.nil.l = [] := (rfl)
theorem ext_id {x : Ext} {k : Key} {w : W} (h : k ∈ keysM) : x.l.map (fun p => if p.1 = k then (p.1, w) else p) = x.l := by
  have : ∀ p ∈ x.l, (if p.1 = k then (p.1, w) else p) = p := fun p hp => if_neg (fun z => x.ok p hp (by rw [z]; exact h))
  rw [List.map_congr_left this]; simp
/-- what stays -/
structure MG where
  code : List Ins
  base : Int
  ans : List Int
  ext : Ext
def gI (l : List Int) (i : Int) : Int := l[i.toNat]?.getD 0
theorem at_gI {l : List Int} {i : Int} (h0 : 0 ≤ i) (h1 : i < l.length) : atW (l.map W.int) i = some (.int (gI l i)) := by
  rw [atW_pos h0, List.getElem?_map]
  unfold gI
  rw [List.getElem?_eq_getElem (show i.toNat < l.length by omega)]
  rfl
def stepI (g : MG) (M : MS) : Ins → MS
  | .fin s => { M with word := s }
  | .set r n => { M with regs := M.regs.set r.toNat n }
  | .high r n => { M with regs := M.regs.set r.toNat (n * 65536 + gI M.regs r % 65536) }
  | .op s d a b => { M with regs := M.regs.set d.toNat (opI s (gI M.regs a) (gI M.regs b)) }
  | .load r b n => let p := (gI M.regs b + n) % 4294967296
      if (M.mem.length : Int) ≤ p then { M with met := M.met ++ [.tup [.int (M.at_ - 1), .int p]], word := (S [102, 97, 117, 108, 116]) }
      else { M with met := M.met ++ [.tup [.int (M.at_ - 1), .int p]], regs := M.regs.set r.toNat (gI M.mem p) }
  | .store r b n => let p := (gI M.regs b + n) % 4294967296
      if (M.mem.length : Int) ≤ p ∨ p < g.base then { M with met := M.met ++ [.tup [.int (M.at_ - 1), .int p]], word := (S [102, 97, 117, 108, 116]) }
      else { M with met := M.met ++ [.tup [.int (M.at_ - 1), .int p]], mem := M.mem.set p.toNat (gI M.regs r) }
  | .go n => { M with at_ := n }
  | .unl r n => if gI M.regs r = 0 then { M with at_ := n } else M
  | .call r n => { M with regs := M.regs.set r.toNat M.at_, at_ := n }
  | .back r => { M with at_ := gI M.regs r }
  | .send p r => { M with deeds := M.deeds ++ [.tup [.str (S [115, 101, 110, 100]), .int p, .int (gI M.regs r)]] }
  | .ask r p => if M.given = g.ans.length then { M with word := (S [111, 112, 101, 110]) } else
      { M with given := M.given + 1, regs := M.regs.set r.toNat (gI g.ans M.given), deeds := M.deeds ++ [.tup [.str (S [97, 115, 107]), .int p, .int (gI g.ans M.given)]] }
  | .take r p => if M.given = g.ans.length then { M with word := (S [111, 112, 101, 110]) } else
      { M with given := M.given + 1, regs := M.regs.set r.toNat (gI g.ans M.given), deeds := M.deeds ++ [.tup [.str (S [116, 97, 107, 101]), .int p, .int (gI g.ans M.given)]] }
  | .time r => if M.given = g.ans.length then { M with word := (S [111, 112, 101, 110]) } else
      { M with given := M.given + 1, regs := M.regs.set r.toNat (gI g.ans M.given), deeds := M.deeds ++ [.tup [.str (S [116, 105, 109, 101]), .int (gI g.ans M.given)]] }
  | .rest => { M with deeds := M.deeds ++ [.tup [.str (S [114, 101, 115, 116])]] }
def step (g : MG) (M : MS) (i : Ins) : MS := let N := stepI g { M with at_ := M.at_ + 1 } i; { N with regs := N.regs.set 0 0 }
def codeW (g : MG) : W := .tup (g.code.map insW)
def mD (g : MG) (rm rr rd rt : Nat) (M : MS) : List (Key × W) :=
  [(.inr (S [99, 111, 100, 101]), codeW g), (.inr (S [109, 101, 109, 111, 114, 121]), .ref rm), (.inr (S [98, 97, 115, 101]), .int g.base), (.inr (S [114, 101, 103, 115]), .ref rr), (.inr (S [97, 116]), .int M.at_), (.inr (S [97, 110, 115, 119, 101, 114, 115]), .tup (g.ans.map W.int)), (.inr (S [103, 105, 118, 101, 110]), .int (M.given : Nat)), (.inr (S [100, 101, 101, 100, 115]), .ref rd), (.inr (S [119, 111, 114, 100]), .str M.word), (.inr (S [100, 111, 110, 101]), .int M.done), (.inr (S [109, 101, 116]), .ref rt)] ++ g.ext.l
structure MR (h : VH) (g : MG) (m rm rr rd rt : Nat) (M : MS) : Prop where
  hm : hg h m = some (.dct (mD g rm rr rd rt M))
  hmm : hg h rm = some (.lst (M.mem.map W.int))
  hrr : hg h rr = some (.lst (M.regs.map W.int))
  hrd : hg h rd = some (.lst M.deeds)
  hrt : hg h rt = some (.lst M.met)
  ne : rm ≠ rr ∧ rm ≠ rd ∧ rm ≠ rt ∧ rr ≠ rd ∧ rr ≠ rt ∧ rd ≠ rt
theorem ne_of_get {h : VH} {a b : Nat} {o o' : O} (x : hg h a = some o) (y : hg h b = some o') (n : o ≠ o') : a ≠ b := by
  rintro rfl
  rw [x] at y
  cases y
  exact n rfl
/-- what the steps keep -/
structure MW (g : MG) (b : Nat) (M : MS) : Prop where
  regs : M.regs.length = 8
  isW : ∀ x ∈ M.regs, isW x
  memW : ∀ x ∈ M.mem, Nw.isW x
  given : M.given ≤ g.ans.length
  deeds : M.deeds.length ≤ b
  met : M.met.length ≤ 2 * b
  at0 : 0 ≤ M.at_
theorem isW_gI {l : List Int} (h : ∀ x ∈ l, isW x) (i : Int) : isW (gI l i) := by
  unfold gI
  cases e : l[i.toNat]? with
  | none => exact ⟨by decide, by decide⟩
  | some x => exact h x (List.mem_of_getElem? e)
def MF (m rm rr rd rt : Nat) : Nat → Prop := fun q => q = m ∨ q = rm ∨ q = rr ∨ q = rd ∨ q = rt
theorem MW.at {g : MG} {b : Nat} {M : MS} (w : MW g b M) : MW g b { M with at_ := M.at_ + 1 } := ⟨w.regs, w.isW, w.memW, w.given, w.deeds, w.met, by have := w.at0; show 0 ≤ M.at_ + 1; omega⟩
section
variable {h : VH} {g : MG} {m rm rr rd rt : Nat} {M : MS}
theorem isW_set {l : List Int} (h : ∀ x ∈ l, isW x) {i : Nat} {v : Int} (hv : isW v) : ∀ x ∈ l.set i v, isW x := fun x hx => by
  rcases List.mem_or_eq_of_mem_set hx with z | z
  · exact h x z
  · exact z ▸ hv
theorem isW_n {n : Int} (h : isN n) : isW n := ⟨h.1, by have := h.2; omega⟩
/-- where the machine stands is small enough to be a word -/
theorem MW.step {b : Nat} {i : Ins} (w : MW g b M) (ok : InsOk i) (ha : ∀ x ∈ g.ans, Nw.isW x) (at1 : M.at_ + 1 < 4294967296) : MW g (b + 1) (step g M i) := by
  have z : Nw.isW 0 := ⟨by decide, by decide⟩
  have wa : Nw.isW (M.at_ + 1) := ⟨by have := w.at0; omega, at1⟩
  obtain ⟨w1, w2, w3, w4, w5, w6, w7⟩ := w
  have reg : ∀ v, Nw.isW v → ∀ r : Int, ∀ x ∈ (M.regs.set r.toNat v).set 0 0, Nw.isW x := fun v hv r => isW_set (isW_set w2 hv) z
  cases i with
  | fin s => exact ⟨by simp [Nw.step, stepI, w1], isW_set w2 z, w3, w4, by simp [Nw.step, stepI]; omega, by simp [Nw.step, stepI]; omega, by simp [Nw.step, stepI]; omega⟩
  | set r n => exact ⟨by simp [Nw.step, stepI, w1], reg _ (isW_n ok.2) r, w3, w4, by simp [Nw.step, stepI]; omega, by simp [Nw.step, stepI]; omega, by simp [Nw.step, stepI]; omega⟩
  | high r n => exact ⟨by simp [Nw.step, stepI, w1], reg _ (by have := ok.2.1; have := ok.2.2; exact ⟨by omega, by omega⟩) r, w3, w4, by simp [Nw.step, stepI]; omega, by simp [Nw.step, stepI]; omega, by simp [Nw.step, stepI]; omega⟩
  | op s d x y => exact ⟨by simp [Nw.step, stepI, w1], reg _ (opI_w (isW_gI w2 _) (isW_gI w2 _)) d, w3, w4, by simp [Nw.step, stepI]; omega, by simp [Nw.step, stepI]; omega, by simp [Nw.step, stepI]; omega⟩
  | load r c k =>
    simp only [Nw.step, stepI]
    split
    · exact ⟨by simp [w1], isW_set w2 z, w3, w4, by simp; omega, by simp; omega, by simp; omega⟩
    · exact ⟨by simp [w1], reg _ (isW_gI w3 _) r, w3, w4, by simp; omega, by simp; omega, by simp; omega⟩
  | store r c k =>
    simp only [Nw.step, stepI]
    split
    · exact ⟨by simp [w1], isW_set w2 z, w3, w4, by simp; omega, by simp; omega, by simp; omega⟩
    · exact ⟨by simp [w1], isW_set w2 z, isW_set w3 (isW_gI w2 _), w4, by simp; omega, by simp; omega, by simp; omega⟩
  | go n => exact ⟨by simp [Nw.step, stepI, w1], isW_set w2 z, w3, w4, by simp [Nw.step, stepI]; omega, by simp [Nw.step, stepI]; omega, by simp [Nw.step, stepI]; exact ok.1⟩
  | unl r n =>
    simp only [Nw.step, stepI]
    split
    · exact ⟨by simp [w1], isW_set w2 z, w3, w4, by simp; omega, by simp; omega, ok.2.1⟩
    · exact ⟨by simp [w1], isW_set w2 z, w3, w4, by simp; omega, by simp; omega, by simp; omega⟩
  | call r n => exact ⟨by simp [Nw.step, stepI, w1], reg _ wa r, w3, w4, by simp [Nw.step, stepI]; omega, by simp [Nw.step, stepI]; omega, ok.2.1⟩
  | back r => exact ⟨by simp [Nw.step, stepI, w1], isW_set w2 z, w3, w4, by simp [Nw.step, stepI]; omega, by simp [Nw.step, stepI]; omega, (isW_gI w2 r).1⟩
  | send p r => exact ⟨by simp [Nw.step, stepI, w1], isW_set w2 z, w3, w4, by simp [Nw.step, stepI]; omega, by simp [Nw.step, stepI]; omega, by simp [Nw.step, stepI]; omega⟩
  | ask r p =>
    simp only [Nw.step, stepI]
    split
    · exact ⟨by simp [w1], isW_set w2 z, w3, w4, by simp; omega, by simp; omega, by simp; omega⟩
    · exact ⟨by simp [w1], reg _ (isW_gI ha _) r, w3, by simp; omega, by simp; omega, by simp; omega, by simp; omega⟩
  | take r p =>
    simp only [Nw.step, stepI]
    split
    · exact ⟨by simp [w1], isW_set w2 z, w3, w4, by simp; omega, by simp; omega, by simp; omega⟩
    · exact ⟨by simp [w1], reg _ (isW_gI ha _) r, w3, by simp; omega, by simp; omega, by simp; omega, by simp; omega⟩
  | time r =>
    simp only [Nw.step, stepI]
    split
    · exact ⟨by simp [w1], isW_set w2 z, w3, w4, by simp; omega, by simp; omega, by simp; omega⟩
    · exact ⟨by simp [w1], reg _ (isW_gI ha _) r, w3, by simp; omega, by simp; omega, by simp; omega, by simp; omega⟩
  | rest => exact ⟨by simp [Nw.step, stepI, w1], isW_set w2 z, w3, w4, by simp [Nw.step, stepI]; omega, by simp [Nw.step, stepI]; omega, by simp [Nw.step, stepI]; omega⟩
end
def kindN : Ins → Nat
  | .fin _ => 0 | .set _ _ => 1 | .high _ _ => 2 | .op _ _ _ _ => 3 | .load _ _ _ => 4 | .store _ _ _ => 5 | .go _ => 6 | .unl _ _ => 7 | .call _ _ => 8 | .back _ => 9 | .send _ _ => 10 | .ask _ _ => 11 | .take _ _ => 12 | .time _ => 13 | .rest => 14
def kindS : Ins → Str
  | .fin _ => (S [101, 110, 100]) | .set _ _ => (S [115, 101, 116]) | .high _ _ => (S [104, 105, 103, 104]) | .op _ _ _ _ => (S [111, 112]) | .load _ _ _ => (S [108, 111, 97, 100]) | .store _ _ _ => (S [115, 116, 111, 114, 101]) | .go _ => (S [103, 111]) | .unl _ _ => (S [117, 110, 108, 101, 115, 115]) | .call _ _ => (S [99, 97, 108, 108]) | .back _ => (S [98, 97, 99, 107]) | .send _ _ => (S [115, 101, 110, 100]) | .ask _ _ => (S [97, 115, 107]) | .take _ _ => (S [116, 97, 107, 101]) | .time _ => (S [116, 105, 109, 101]) | .rest => (S [114, 101, 115, 116])
theorem insL_head (i : Ins) : ∃ t, insL i = .str (kindS i) :: t := by cases i <;> exact ⟨_, rfl⟩
def signN (s : Str) : Nat := (signs.findIdx? (fun y => decide (y = s))).getD 0
def codeN (i : Ins) : Int := kindN i * 134217728 + match i with
  | .fin s => if s = (S [98, 111, 117, 110, 100]) then 1 else 0
  | .set r n => r * 16777216 + n
  | .high r n => r * 16777216 + n
  | .op s d a b => d * 16777216 + a * 2097152 + (signN s : Int) * 131072 + b
  | .load r b n => r * 16777216 + b * 2097152 + n
  | .store r b n => r * 16777216 + b * 2097152 + n
  | .go n => n
  | .unl r n => r * 16777216 + n
  | .call r n => r * 16777216 + n
  | .back r => r * 16777216
  | .send p r => r * 16777216 + p
  | .ask r p => r * 16777216 + p
  | .take r p => r * 16777216 + p
  | .time r => r * 16777216
  | .rest => 0
theorem signN_lt {s : Str} (hs : s ∈ signs) : signN s < 12 := by
  simp only [signs, List.mem_cons, List.not_mem_nil, or_false] at hs
  rcases hs with rfl | rfl | rfl | rfl | rfl | rfl | rfl | rfl | rfl | rfl | rfl | rfl <;> simp [signN, signs, List.findIdx?_cons]
theorem codeN_w {i : Ins} (ok : InsOk i) : isW (codeN i) := by
  cases i <;> simp only [codeN, kindN, InsOk, isR, isN, isW] at ok ⊢
  case op s d a b => have := signN_lt ok.1; omega
  case fin s => split <;> omega
  all_goals omega
theorem sign_ix {s : Str} (hs : s ∈ signs) : List.findIdx? (fun y => eqF y (W.str s)) [.str (S [43]), .str (S [45]), .str (S [42]), .str (S [47]), .str (S [64]), .str (S [38]), .str (S [124]), .str (S [94]), .str (S [61, 61]), .str (S [60]), .str (S [60, 60]), .str (S [62, 62])] = some (signN s) := by
  simp only [signs, List.mem_cons, List.not_mem_nil, or_false] at hs
  rcases hs with rfl | rfl | rfl | rfl | rfl | rfl | rfl | rfl | rfl | rfl | rfl | rfl <;> simp [signN, signs, List.findIdx?_cons]
def up16 (n : Nat) : Nat := (n + 15) / 16 * 16
def memA (code : List Ins) (first : List Int) : List Int := code.map codeN ++ List.replicate (up16 code.length - code.length) 0 ++ first
def memOf (code : List Ins) (first : List Int) : List Int := memA code first ++ List.replicate (up16 (memA code first).length - (memA code first).length) 0
def gOf (code : List Ins) (ans : List Int) : MG := ⟨code, up16 code.length, ans, .nil⟩
def M0 (code : List Ins) (first : List Int) : MS := ⟨memOf code first, List.replicate 8 0, 0, 0, [], (S []), 0, []⟩
def guestW (code : List Ins) (first : List Int) : W := .tup [.tup (code.map insW), .int first.length, .tup (first.map W.int)]
theorem rep_int (k : Nat) : (List.replicate k (W.int 0)) = (List.replicate k (0 : Int)).map W.int := by simp
structure GOk (code : List Ins) (first : List Int) : Prop where
  ins : ∀ i ∈ code, InsOk i
  len : code.length ≤ 30000
  pos : 1 ≤ code.length
  size : first.length ≤ 1000
  firstW : ∀ x ∈ first, isW x
theorem up16_int (n : Nat) : ((n : Int) + 15) / 16 * 16 = (up16 n : Nat) := by unfold up16; omega
theorem up16_le (n : Nat) : up16 n ≤ n + 15 ∧ n ≤ up16 n := by unfold up16; omega
def FR (h0 : VH) (m rm rr rd rt : Nat) : Prop := h0.length ≤ m ∧ h0.length ≤ rm ∧ h0.length ≤ rr ∧ h0.length ≤ rd ∧ h0.length ≤ rt
/-! ### a run -/
def met1 (M : MS) : MS := { M with met := M.met ++ [.tup [.int M.at_, .int (-1)]] }
/-- one turn -/
def turn (g : MG) (M : MS) : MS := let N := step g (met1 M) ((g.code[M.at_.toNat]?).getD .rest); { N with done := N.done + 1 }
/-- it stands behind the code -/
def over (g : MG) (M : MS) : MS := if M.word = (S []) ∧ (g.code.length : Int) ≤ M.at_ then { M with word := (S [102, 97, 117, 108, 116]) } else M
def ran (g : MG) : Nat → MS → MS
  | 0, M => M
  | n + 1, M => if (over g M).word = (S []) then ran g n (turn g (over g M)) else over g M
def ranS (g : MG) (n : Nat) (M : MS) : MS := if (ran g n M).word = (S []) then { ran g n M with word := (S [115, 116, 101, 112, 115]) } else ran g n M
end Nw

set_option Elab.async false
set_option linter.all false
set_option maxRecDepth 100000
set_option maxHeartbeats 4000000
/-! The board, by itself: guests' slots; what a slot hangs on. No program. -/
namespace Nw
open PySem PySem.Spec PyProof.Rows L2
def mx (i j : Int) : Int := if j > i then j else i
/-- what a plan says of the machine -/
structure PD where
  nset : Nat
  ways : Nat
  flC : Bool
  room : Nat
  flL : Bool
  hit : Int
  miss : Int
  look : Int
  fault : Int
  rooms : List Nat
def PD.worst (P : PD) : Int := mx P.fault (1 + 2 * (P.look + mx P.hit P.miss)) + P.fault
/-- what stays of a guest -/
structure GD where
  num : Int
  code : List Ins
  base : Int
  frames : List Int
  frm : List Nat
  to : List Nat
/-- what changes of a guest -/
structure LS where
  M : MS
  inn : List (Int × Int)
  ans : List Int
  came : Bool
structure SH where
  sets : List (List Int)
  pairs : List ((Int × Int) × Int)
abbrev CH := List (List Int)
structure ST where
  s : LS
  sh : SH
  ch : CH
def setAt (n : Nat) (l : Int) : Nat := (l % n).toNat
def chAt {α : Type} (l : List (List α)) (k : Nat) : List α := l[k]?.getD []
def dropL (n : Nat) (sets : List (List Int)) (l : Int) : List (List Int) := sets.set (setAt n l) ((chAt sets (setAt n l)).filter fun x => decide (x ≠ l))
def dropF (n : Nat) (sets : List (List Int)) (f : Int) : List (List Int) := dropL n (dropL n (dropL n (dropL n sets (4 * f)) (4 * f + 1)) (4 * f + 2)) (4 * f + 3)
def lastN {α : Type} (n : Nat) (l : List α) : List α := l.drop (l.length - n)
def frameOf (inn : List (Int × Int)) (page : Int) : Option Int := ((inn.filter fun p => decide (p.1 = page)).map (·.2)).head?
/-- the frame, what is in then, the page that went -/
def bringF (G : GD) (inn : List (Int × Int)) (page : Int) : Int × List (Int × Int) × Option Int :=
  if inn.length < G.frames.length then (gI G.frames inn.length, inn ++ [(page, gI G.frames inn.length)], none)
  else match inn with
    | (gone, f) :: r => (f, r ++ [(page, f)], some gone)
    | [] => (0, [(page, 0)], none)
structure Met where
  came : Bool
  spent : Int
  inn : List (Int × Int)
  sh : SH
def meetB (P : PD) (G : GD) (inn : List (Int × Int)) (sh : SH) (a : Int) : Met :=
  ⟨true, P.fault, (bringF G inn (a / 16)).2.1, ⟨dropF P.nset sh.sets (bringF G inn (a / 16)).1, match (bringF G inn (a / 16)).2.2 with | some q => sh.pairs.filter fun p => decide (p.1 ≠ (G.num, q)) | none => sh.pairs⟩⟩
def hasP (G : GD) (sh : SH) (page : Int) : Bool := sh.pairs.any fun p => decide (p.1 = (G.num, page))
def lineOf (f a : Int) : Int := (16 * f + a % 16) / 4
def meetT (P : PD) (G : GD) (inn : List (Int × Int)) (sh : SH) (a f : Int) : Met :=
  ⟨false, (if hasP G sh (a / 16) then 0 else P.look) + (if lineOf f a ∈ chAt sh.sets (setAt P.nset (lineOf f a)) then P.hit else P.miss), inn,
    ⟨sh.sets.set (setAt P.nset (lineOf f a)) ((lineOf f a :: (chAt sh.sets (setAt P.nset (lineOf f a))).filter fun x => decide (x ≠ lineOf f a)).take P.ways),
      if hasP G sh (a / 16) then sh.pairs else lastN P.room (sh.pairs ++ [((G.num, a / 16), f)])⟩⟩
def meet (P : PD) (G : GD) (inn : List (Int × Int)) (sh : SH) (a : Int) : Met := match frameOf inn (a / 16) with
  | none => meetB P G inn sh a
  | some f => meetT P G inn sh a f
/-- the address of a load or store that is no fault -/
def reach (G : GD) (M : MS) : Ins → Option Int
  | .load r b n => if (gI M.regs b + n) % 4294967296 < M.mem.length then some ((gI M.regs b + n) % 4294967296) else none
  | .store r b n => if (gI M.regs b + n) % 4294967296 < M.mem.length ∧ G.base ≤ (gI M.regs b + n) % 4294967296 then some ((gI M.regs b + n) % 4294967296) else none
  | _ => none
/-- a word behind a channel's words -/
def wait (P : PD) (ch : CH) (k : Nat) (w : Int) : CH := ch.set k (lastN (P.rooms[k]?.getD 0) (chAt ch k ++ [w]))
def nAt (l : List Nat) (c : Int) : Nat := l[c.toNat]?.getD 0
/-- what is answered, and the channels then -/
def answer (G : GD) (ch : CH) (clock : Int) : Ins → Option Int × CH
  | .time _ => (some (clock % 4294967296), ch)
  | .ask _ c => (some (if c.toNat < G.to.length then ((chAt ch (nAt G.to c)).length : Nat) else 0), ch)
  | .take _ c => if c.toNat < G.to.length then (match chAt ch (nAt G.to c) with | w :: l => (some w, ch.set (nAt G.to c) l) | [] => (some 0, ch)) else (some 0, ch)
  | _ => (none, ch)
def sent (P : PD) (G : GD) (M : MS) (ch : CH) : Ins → CH
  | .send c r => if c.toNat < G.frm.length then wait P ch (nAt G.frm c) (gI M.regs r) else ch
  | _ => ch
def ansOf (l : List Int) : Option Int → List Int | some v => [v] | none => l
def preM (M : MS) : Option Int → MS | some _ => { M with given := 0 } | none => M
/-- an end keeps its place -/
def endAt (a : Int) (M : MS) : MS := if M.word = (S []) then M else { M with at_ := a }
/-- the instruction is done -/
def doI (P : PD) (G : GD) (x : ST) (clock : Int) (i : Ins) : ST :=
  ⟨{ x.s with ans := ansOf x.s.ans (answer G x.ch clock i).1, M := endAt x.s.M.at_ (step ⟨G.code, G.base, ansOf x.s.ans (answer G x.ch clock i).1, .nil⟩ (preM x.s.M (answer G x.ch clock i).1) i) }, x.sh, sent P G x.s.M (answer G x.ch clock i).2 i⟩
def insAt (G : GD) (M : MS) : Ins := G.code[M.at_.toNat]?.getD .rest
def wentOn (x : ST) (m : Met) : ST := ⟨{ x.s with inn := m.inn, came := m.came }, m.sh, x.ch⟩
/-- one step, and the ticks that it takes -/
def step1 (P : PD) (G : GD) (x : ST) (clock : Int) : ST × Int :=
  if (G.code.length : Int) ≤ x.s.M.at_ then (⟨{ x.s with M := { x.s.M with word := (S [102, 97, 117, 108, 116]) }, came := false }, x.sh, x.ch⟩, 1)
  else
    let m := meet P G x.s.inn x.sh x.s.M.at_
    if m.came then (wentOn x m, m.spent)
    else match reach G x.s.M (insAt G x.s.M) with
      | none => (doI P G (wentOn x m) clock (insAt G x.s.M), m.spent + 1)
      | some p =>
        let m2 := meet P G m.inn m.sh p
        if m2.came then (wentOn x m2, m.spent + m2.spent)
        else (doI P G (wentOn x m2) clock (insAt G x.s.M), m.spent + m2.spent + 1)
def restD : W := .tup [.str (S [114, 101, 115, 116])]
def isRest : W → Bool | .tup [.str s] => decide (s = (S [114, 101, 115, 116])) | _ => false
def rested (d : List W) : Bool := match d.getLast? with | some w => isRest w | none => false
def goesOn (P : PD) (M : MS) (ticks used : Int) : Bool := decide (M.word = (S [])) && !rested M.deeds && !decide (P.worst > ticks - used)
def slotGo (P : PD) (G : GD) (begin_ ticks : Int) : Nat → ST → Int → ST × Int
  | 0, x, u => (x, u)
  | n + 1, x, u => if goesOn P x.s.M ticks u then slotGo P G begin_ ticks n (step1 P G x (begin_ + u)).1 (u + (step1 P G x (begin_ + u)).2) else (x, u)
def flush (P : PD) (sh : SH) : SH := ⟨if P.flC then List.replicate P.nset [] else sh.sets, if P.flL then [] else sh.pairs⟩
def atSlot (P : PD) (x : ST) : ST := ⟨{ x.s with M := { x.s.M with deeds := [] } }, flush P x.sh, x.ch⟩
/-- a slot, and the ticks used -/
def slotY (P : PD) (G : GD) (begin_ ticks : Int) (x : ST) : ST × Int := slotGo P G begin_ ticks ticks.toNat (atSlot P x) 0
/-- an entry -/
structure En where
  g : Int
  begin_ : Int
  used : Int
  deeds : List W
  at_ : Int
  regs : List Int
  word : Str
def entryOf (G : GD) (begin_ : Int) (r : ST × Int) : En := ⟨G.num, begin_, r.2, r.1.s.M.deeds, r.1.s.M.at_, r.1.s.M.regs, r.1.s.M.word⟩

/-! ### what a step hangs on -/
structure Agr {α : Type} (S : Nat → Prop) (l l' : List α) : Prop where
  len : l.length = l'.length
  get : ∀ i, S i → l[i]? = l'[i]?
section
variable {α : Type} {S : Nat → Prop} {l l' : List α}
theorem Agr.rfl : Agr S l l := ⟨Eq.refl _, fun _ _ => Eq.refl _⟩
theorem Agr.set {j : Nat} {v v' : α} (a : Agr S l l') (h : S j → v = v') : Agr S (l.set j v) (l'.set j v') := by
  refine ⟨by simp [a.len], fun i hi => ?_⟩
  by_cases e : j = i
  · subst e
    rw [h hi, List.getElem?_set, List.getElem?_set, a.len, if_pos (Eq.refl _), if_pos (Eq.refl _)]
  · rw [List.getElem?_set_ne e, List.getElem?_set_ne e, a.get i hi]
theorem Agr.at {l l' : List (List Int)} (a : Agr S l l') {j : Nat} (h : S j) : chAt l j = chAt l' j := by unfold chAt; rw [a.get j h]
/-- all but those of S stay -/
def Off {α : Type} (S : Nat → Prop) (l l' : List α) : Prop := l.length = l'.length ∧ ∀ i, ¬ S i → l'[i]? = l[i]?
theorem Off.rfl : Off S l l := ⟨Eq.refl _, fun _ _ => Eq.refl _⟩
theorem Off.trans {l'' : List α} (a : Off S l l') (b : Off S l' l'') : Off S l l'' := ⟨a.1.trans b.1, fun i h => (b.2 i h).trans (a.2 i h)⟩
theorem Off.set {j : Nat} {v : α} (h : S j) : Off S l (l.set j v) := ⟨by simp, fun i hi => List.getElem?_set_ne (by rintro rfl; exact hi h)⟩
theorem Off.mono {T : Nat → Prop} (a : Off S l l') (h : ∀ i, S i → T i) : Off T l l' := ⟨a.1, fun i hi => a.2 i fun z => hi (h i z)⟩
end
/-- the sets that a guest's frames have -/
def OwnS (n : Nat) (S : Nat → Prop) (fs : List Int) : Prop := ∀ f ∈ fs, S (setAt n (4 * f)) ∧ S (setAt n (4 * f + 1)) ∧ S (setAt n (4 * f + 2)) ∧ S (setAt n (4 * f + 3))
/-- the frames that are in are a guest's own -/
def InnOk (G : GD) (inn : List (Int × Int)) : Prop := ∀ p ∈ inn, p.2 ∈ G.frames
theorem lineOf_cases (f a : Int) : lineOf f a = 4 * f ∨ lineOf f a = 4 * f + 1 ∨ lineOf f a = 4 * f + 2 ∨ lineOf f a = 4 * f + 3 := by unfold lineOf; omega
theorem OwnS.line {n : Nat} {S : Nat → Prop} {fs : List Int} (h : OwnS n S fs) {f : Int} (hf : f ∈ fs) (a : Int) : S (setAt n (lineOf f a)) := by
  obtain ⟨h0, h1, h2, h3⟩ := h f hf
  rcases lineOf_cases f a with e | e | e | e <;> rw [e] <;> assumption
theorem dropL_agr {n : Nat} {S : Nat → Prop} {l l' : List (List Int)} (a : Agr S l l') {x : Int} : Agr S (dropL n l x) (dropL n l' x) := a.set fun h => by rw [a.at h]
theorem dropF_agr {n : Nat} {S : Nat → Prop} {l l' : List (List Int)} (a : Agr S l l') {f : Int} : Agr S (dropF n l f) (dropF n l' f) := dropL_agr (dropL_agr (dropL_agr (dropL_agr a)))
theorem dropF_off {n : Nat} {S : Nat → Prop} {l : List (List Int)} {fs : List Int} (h : OwnS n S fs) {f : Int} (hf : f ∈ fs) : Off S l (dropF n l f) := by
  obtain ⟨h0, h1, h2, h3⟩ := h f hf
  exact (((Off.set h0).trans (Off.set h1)).trans (Off.set h2)).trans (Off.set h3)
theorem gI_mem {l : List Int} {k : Nat} (h : k < l.length) : gI l k ∈ l := by
  unfold gI
  rw [show ((k : Int)).toNat = k from rfl, List.getElem?_eq_getElem h]
  exact List.getElem_mem h
theorem bring_frame {G : GD} {inn : List (Int × Int)} {page : Int} (pos : 0 < G.frames.length) (h : InnOk G inn) : (bringF G inn page).1 ∈ G.frames ∧ InnOk G (bringF G inn page).2.1 := by
  unfold bringF
  split
  · rename_i hl
    refine ⟨gI_mem hl, fun p hp => ?_⟩
    rcases List.mem_append.mp hp with z | z
    · exact h p z
    · simp at z; subst z; exact gI_mem hl
  · rename_i hl
    split
    · rename_i gone f r
      have hf : f ∈ G.frames := h (gone, f) (List.mem_cons_self ..)
      refine ⟨hf, fun p hp => ?_⟩
      rcases List.mem_append.mp hp with z | z
      · exact h p (List.mem_cons_of_mem _ z)
      · simp at z; subst z; exact hf
    · exact absurd pos (by simpa using hl)
theorem frameOf_mem {inn : List (Int × Int)} {page f : Int} (h : frameOf inn page = some f) : ∃ p ∈ inn, p.2 = f ∧ p.1 = page := by
  unfold frameOf at h
  have := List.mem_of_head? h
  rw [List.mem_map] at this
  obtain ⟨p, hp, e⟩ := this
  rw [List.mem_filter] at hp
  exact ⟨p, hp.1, e, by simpa using hp.2⟩
/-- two shared parts that a guest can't tell -/
structure ShR (S : Nat → Prop) (a b : SH) : Prop where
  sets : Agr S a.sets b.sets
  pairs : a.pairs = b.pairs
structure MetR (S : Nat → Prop) (m m' : Met) : Prop where
  came : m.came = m'.came
  spent : m.spent = m'.spent
  inn : m.inn = m'.inn
  sh : ShR S m.sh m'.sh
theorem meet_agr {P : PD} {G : GD} {S : Nat → Prop} {inn : List (Int × Int)} {a b : SH} {x : Int} (own : OwnS P.nset S G.frames) (ok : InnOk G inn) (r : ShR S a b) : MetR S (meet P G inn a x) (meet P G inn b x) := by
  unfold meet
  split
  · refine ⟨Eq.refl _, Eq.refl _, Eq.refl _, ⟨dropF_agr r.sets, ?_⟩⟩
    unfold meetB
    simp only
    split
    · rw [r.pairs]
    · exact r.pairs
  · rename_i f hf
    obtain ⟨p, hp, rfl, _⟩ := frameOf_mem hf
    have hs := own.line (ok p hp) x
    have e := r.sets.at hs
    have hp' : hasP G a (x / 16) = hasP G b (x / 16) := by unfold hasP; rw [r.pairs]
    unfold meetT
    rw [hp', e, r.pairs]
    exact ⟨Eq.refl _, Eq.refl _, Eq.refl _, ⟨r.sets.set fun _ => Eq.refl _, Eq.refl _⟩⟩
theorem meet_off {P : PD} {G : GD} {S : Nat → Prop} {inn : List (Int × Int)} {a : SH} {x : Int} (own : OwnS P.nset S G.frames) (pos : 0 < G.frames.length) (ok : InnOk G inn) : Off S a.sets (meet P G inn a x).sh.sets ∧ InnOk G (meet P G inn a x).inn := by
  unfold meet
  split
  · exact ⟨dropF_off own (bring_frame pos ok).1, (bring_frame pos ok).2⟩
  · rename_i f hf
    obtain ⟨p, hp, rfl, _⟩ := frameOf_mem hf
    exact ⟨Off.set (own.line (ok p hp) x), ok⟩
/-- two states of a guest's that it can't tell; T: the channels that it may look at -/
structure StR (S T : Nat → Prop) (x y : ST) : Prop where
  s : x.s = y.s
  sh : ShR S x.sh y.sh
  ch : Agr T x.ch y.ch
/-- the channels that an instruction looks at -/
def looks (G : GD) : Ins → Nat → Prop
  | .ask _ c, k => c.toNat < G.to.length ∧ k = nAt G.to c
  | .take _ c, k => c.toNat < G.to.length ∧ k = nAt G.to c
  | _, _ => False
theorem answer_agr {G : GD} {T : Nat → Prop} {a b : CH} {clock : Int} {i : Ins} (r : Agr T a b) (h : ∀ k, looks G i k → T k) : (answer G a clock i).1 = (answer G b clock i).1 ∧ Agr T (answer G a clock i).2 (answer G b clock i).2 := by
  cases i with
  | ask r' c =>
    simp only [answer]
    refine ⟨?_, r⟩
    split
    · rename_i hc
      rw [r.at (h _ ⟨hc, Eq.refl _⟩)]
    · rfl
  | take r' c =>
    simp only [answer]
    split
    · rename_i hc
      have e := r.at (h (nAt G.to c) ⟨hc, Eq.refl _⟩)
      rw [e]
      split
      · exact ⟨Eq.refl _, r.set fun _ => Eq.refl _⟩
      · exact ⟨Eq.refl _, r⟩
    · exact ⟨Eq.refl _, r⟩
  | _ => exact ⟨Eq.refl _, r⟩
theorem sent_agr {P : PD} {G : GD} {M : MS} {T : Nat → Prop} {a b : CH} {i : Ins} (r : Agr T a b) : Agr T (sent P G M a i) (sent P G M b i) := by
  cases i with
  | send c r' =>
    simp only [sent]
    split
    · exact r.set fun h => by rw [r.at h]
    · exact r
  | _ => exact r
theorem doI_agr {P : PD} {G : GD} {S T : Nat → Prop} {x y : ST} {clock : Int} {i : Ins} (r : StR S T x y) (h : ∀ k, looks G i k → T k) : StR S T (doI P G x clock i) (doI P G y clock i) := by
  obtain ⟨e1, e2⟩ := answer_agr (G := G) (clock := clock) (i := i) r.ch h
  unfold doI
  rw [e1, r.s]
  exact ⟨Eq.refl _, r.sh, sent_agr e2⟩
theorem step1_aux {P : PD} {G : GD} {S T : Nat → Prop} {x y : ST} {clock : Int} (own : OwnS P.nset S G.frames) (pos : 0 < G.frames.length) (ok : InnOk G x.s.inn) (r : StR S T x y)
    (h : (∃ z, (step1 P G x clock).1 = doI P G z clock (insAt G x.s.M)) → ∀ k, looks G (insAt G x.s.M) k → T k) :
    StR S T (step1 P G x clock).1 (step1 P G y clock).1 ∧ (step1 P G x clock).2 = (step1 P G y clock).2 := by
  unfold step1 at h ⊢
  rw [← r.s]
  split
  · exact ⟨⟨Eq.refl _, r.sh, r.ch⟩, Eq.refl _⟩
  · rename_i hc
    rw [if_neg hc] at h
    have m := meet_agr (x := x.s.M.at_) own ok r.sh
    have mo := (meet_off (x := x.s.M.at_) (a := x.sh) own pos ok).2
    simp only at h ⊢
    rw [← m.came]
    have w : StR S T (wentOn x (meet P G x.s.inn x.sh x.s.M.at_)) (wentOn y (meet P G x.s.inn y.sh x.s.M.at_)) := ⟨by unfold wentOn; rw [m.inn, m.came, r.s], m.sh, r.ch⟩
    split
    · exact ⟨w, m.spent⟩
    · rename_i hc2
      rw [if_neg hc2] at h
      split
      · rename_i hr
        rw [hr] at h
        exact ⟨doI_agr w (h ⟨_, Eq.refl _⟩), by rw [m.spent]⟩
      · rename_i p hp
        rw [hp] at h
        simp only at h
        have m2 := meet_agr (x := p) own mo m.sh
        rw [← m.inn, ← m2.came]
        have w2 : StR S T (wentOn x (meet P G (meet P G x.s.inn x.sh x.s.M.at_).inn (meet P G x.s.inn x.sh x.s.M.at_).sh p)) (wentOn y (meet P G (meet P G x.s.inn x.sh x.s.M.at_).inn (meet P G x.s.inn y.sh x.s.M.at_).sh p)) :=
          ⟨by unfold wentOn; rw [m2.inn, m2.came, r.s], m2.sh, r.ch⟩
        split
        · exact ⟨w2, by rw [m.spent, m2.spent]⟩
        · rename_i hc3
          rw [if_neg hc3] at h
          exact ⟨doI_agr w2 (h ⟨_, Eq.refl _⟩), by rw [m.spent, m2.spent]⟩
theorem doI_off {P : PD} {G : GD} {x : ST} {clock : Int} {i : Ins} : (doI P G x clock i).sh = x.sh ∧ (doI P G x clock i).s.inn = x.s.inn ∧ Off (fun k => k ∈ G.to ∨ k ∈ G.frm) x.ch (doI P G x clock i).ch := by
  have mem : ∀ (l : List Nat) (c : Int), c.toNat < l.length → nAt l c ∈ l := fun l c hc => by
    unfold nAt
    rw [List.getElem?_eq_getElem hc]
    exact List.getElem_mem _
  refine ⟨Eq.refl _, Eq.refl _, ?_⟩
  have ha : Off (fun k => k ∈ G.to ∨ k ∈ G.frm) x.ch (answer G x.ch clock i).2 := by
    cases i with
    | take r c =>
      simp only [answer]
      split
      · rename_i hc
        split
        · exact Off.set (.inl (mem _ _ hc))
        · exact Off.rfl
      · exact Off.rfl
    | _ => exact Off.rfl
  refine ha.trans ?_
  show Off _ _ (sent P G x.s.M (answer G x.ch clock i).2 i)
  generalize (answer G x.ch clock i).2 = ch
  cases i with
  | send c r =>
    simp only [sent]
    split
    · rename_i hc
      exact Off.set (.inr (mem _ _ hc))
    · exact Off.rfl
  | _ => exact Off.rfl
theorem step1_off {P : PD} {G : GD} {S : Nat → Prop} {x : ST} {clock : Int} (own : OwnS P.nset S G.frames) (pos : 0 < G.frames.length) (ok : InnOk G x.s.inn) :
    Off S x.sh.sets (step1 P G x clock).1.sh.sets ∧ InnOk G (step1 P G x clock).1.s.inn ∧ Off (fun k => k ∈ G.to ∨ k ∈ G.frm) x.ch (step1 P G x clock).1.ch := by
  unfold step1
  split
  · exact ⟨Off.rfl, ok, Off.rfl⟩
  · obtain ⟨m1, m2⟩ := meet_off (x := x.s.M.at_) (a := x.sh) own pos ok
    simp only
    split
    · exact ⟨m1, m2, Off.rfl⟩
    · split
      · obtain ⟨e1, e2, e3⟩ := doI_off (P := P) (G := G) (x := wentOn x (meet P G x.s.inn x.sh x.s.M.at_)) (clock := clock) (i := insAt G x.s.M)
        rw [e1, e2]
        exact ⟨m1, m2, e3⟩
      · rename_i p hp
        obtain ⟨n1, n2⟩ := meet_off (x := p) (a := (meet P G x.s.inn x.sh x.s.M.at_).sh) own pos m2
        split
        · exact ⟨m1.trans n1, n2, Off.rfl⟩
        · obtain ⟨e1, e2, e3⟩ := doI_off (P := P) (G := G) (x := wentOn x (meet P G (meet P G x.s.inn x.sh x.s.M.at_).inn (meet P G x.s.inn x.sh x.s.M.at_).sh p)) (clock := clock) (i := insAt G x.s.M)
          rw [e1, e2]
          exact ⟨m1.trans n1, n2, e3⟩
/-- the channels that deeds looked at -/
def lookD (G : GD) : W → Nat → Prop
  | .tup (.str s :: .int c :: _), k => (s = (S [97, 115, 107]) ∨ s = (S [116, 97, 107, 101])) ∧ c.toNat < G.to.length ∧ k = nAt G.to c
  | _, _ => False
/-- a step adds a deed at most: one that tells what it looked at -/
theorem step_deeds {g : MG} {M : MS} {i : Ins} : (step g M i).deeds = M.deeds ∨ ∃ d, (step g M i).deeds = M.deeds ++ [d] := by
  unfold step
  simp only
  cases i <;> unfold stepI <;> simp only <;> first | exact .inl trivial | exact .inr ⟨_, Eq.refl _⟩ | (split <;> first | exact .inl (Eq.refl _) | exact .inr ⟨_, Eq.refl _⟩)
theorem endAt_deeds (a : Int) (M : MS) : (endAt a M).deeds = M.deeds := by unfold endAt; split <;> rfl
theorem preM_deeds (M : MS) (v : Option Int) : (preM M v).deeds = M.deeds := by cases v <;> rfl
theorem doI_deeds {P : PD} {G : GD} {x : ST} {clock : Int} {i : Ins} : ∃ d, (doI P G x clock i).s.M.deeds = x.s.M.deeds ++ d := by
  show ∃ d, (endAt _ _).deeds = _
  rw [endAt_deeds]
  rcases step_deeds (g := ⟨G.code, G.base, ansOf x.s.ans (answer G x.ch clock i).1, .nil⟩) (M := preM x.s.M (answer G x.ch clock i).1) (i := i) with h | ⟨d, h⟩
  · exact ⟨[], by rw [h, preM_deeds, List.append_nil]⟩
  · exact ⟨[d], by rw [h, preM_deeds]⟩
theorem doI_looks {P : PD} {G : GD} {x : ST} {clock : Int} {i : Ins} {k : Nat} (hk : looks G i k) : ∃ w ∈ (doI P G x clock i).s.M.deeds, lookD G w k := by
  show ∃ w ∈ (endAt _ _).deeds, _
  rw [endAt_deeds]
  cases i with
  | ask r c =>
    refine ⟨.tup [.str (S [97, 115, 107]), .int c, .int ((answer G x.ch clock (.ask r c)).1.getD 0)], ?_, show (_ ∨ _) ∧ _ ∧ _ from ⟨.inl (Eq.refl _), hk.1, hk.2⟩⟩
    simp [answer, ansOf, preM, step, stepI, gI]
  | take r c =>
    have ha : ∃ v, (answer G x.ch clock (.take r c)).1 = some v := by
      simp only [answer]
      split
      · split <;> exact ⟨_, Eq.refl _⟩
      · exact ⟨_, Eq.refl _⟩
    obtain ⟨v, hv⟩ := ha
    refine ⟨.tup [.str (S [116, 97, 107, 101]), .int c, .int v], ?_, show (_ ∨ _) ∧ _ ∧ _ from ⟨.inr (Eq.refl _), hk.1, hk.2⟩⟩
    rw [hv]
    simp [ansOf, preM, step, stepI, gI]
  | _ => exact hk.elim
theorem step1_deeds {P : PD} {G : GD} {x : ST} {clock : Int} : ∃ d, (step1 P G x clock).1.s.M.deeds = x.s.M.deeds ++ d := by
  unfold step1
  split
  · exact ⟨[], by simp⟩
  · simp only
    split
    · exact ⟨[], by simp [wentOn]⟩
    · split
      · exact doI_deeds
      · split
        · exact ⟨[], by simp [wentOn]⟩
        · exact doI_deeds
/-- the frames that are in, and what is open to the guest, stay well -/
theorem slotGo_off {P : PD} {G : GD} {S : Nat → Prop} {b t : Int} (own : OwnS P.nset S G.frames) (pos : 0 < G.frames.length) : ∀ (n : Nat) (x : ST) (u : Int), InnOk G x.s.inn →
    Off S x.sh.sets (slotGo P G b t n x u).1.sh.sets ∧ InnOk G (slotGo P G b t n x u).1.s.inn ∧ Off (fun k => k ∈ G.to ∨ k ∈ G.frm) x.ch (slotGo P G b t n x u).1.ch
  | 0, x, u, ok => ⟨Off.rfl, ok, Off.rfl⟩
  | n + 1, x, u, ok => by
    unfold slotGo
    split
    · obtain ⟨h1, h2, h3⟩ := step1_off (clock := b + u) own pos ok
      obtain ⟨k1, k2, k3⟩ := slotGo_off (b := b) (t := t) own pos n (step1 P G x (b + u)).1 (u + (step1 P G x (b + u)).2) h2
      exact ⟨h1.trans k1, k2, h3.trans k3⟩
    · exact ⟨Off.rfl, ok, Off.rfl⟩
theorem slotGo_deeds {P : PD} {G : GD} {b t : Int} : ∀ (n : Nat) (x : ST) (u : Int), ∃ d, (slotGo P G b t n x u).1.s.M.deeds = x.s.M.deeds ++ d
  | 0, x, u => ⟨[], by simp [slotGo]⟩
  | n + 1, x, u => by
    unfold slotGo
    split
    · obtain ⟨d, h⟩ := step1_deeds (P := P) (G := G) (x := x) (clock := b + u)
      obtain ⟨e, k⟩ := slotGo_deeds (P := P) (G := G) (b := b) (t := t) n (step1 P G x (b + u)).1 (u + (step1 P G x (b + u)).2)
      exact ⟨d ++ e, by rw [k, h, List.append_assoc]⟩
    · exact ⟨[], by simp⟩
/-- what a step looks at it tells -/
theorem step1_agr {P : PD} {G : GD} {S T : Nat → Prop} {x y : ST} {clock : Int} (own : OwnS P.nset S G.frames) (pos : 0 < G.frames.length) (ok : InnOk G x.s.inn) (r : StR S T x y) (h : ∀ w ∈ (step1 P G x clock).1.s.M.deeds, ∀ k, lookD G w k → T k) :
    StR S T (step1 P G x clock).1 (step1 P G y clock).1 ∧ (step1 P G x clock).2 = (step1 P G y clock).2 := by
  refine step1_aux own pos ok r fun ⟨z, hz⟩ k hk => ?_
  obtain ⟨w, hw, hl⟩ := doI_looks (P := P) (x := z) (clock := clock) hk
  exact h w (by rw [hz]; exact hw) k hl
theorem slotGo_agr {P : PD} {G : GD} {S T : Nat → Prop} {b t : Int} (own : OwnS P.nset S G.frames) (pos : 0 < G.frames.length) : ∀ (n : Nat) (x y : ST) (u : Int), InnOk G x.s.inn → StR S T x y → (∀ w ∈ (slotGo P G b t n x u).1.s.M.deeds, ∀ k, lookD G w k → T k) →
    StR S T (slotGo P G b t n x u).1 (slotGo P G b t n y u).1 ∧ (slotGo P G b t n x u).2 = (slotGo P G b t n y u).2
  | 0, x, y, u, ok, r, h => ⟨r, Eq.refl _⟩
  | n + 1, x, y, u, ok, r, h => by
    unfold slotGo at h ⊢
    rw [← r.s]
    split
    · rename_i hg
      rw [if_pos hg] at h
      obtain ⟨d, hd⟩ := slotGo_deeds (P := P) (G := G) (b := b) (t := t) n (step1 P G x (b + u)).1 (u + (step1 P G x (b + u)).2)
      obtain ⟨r1, e1⟩ := step1_agr (clock := b + u) own pos ok r fun w hw => h w (by rw [hd]; exact List.mem_append_left _ hw)
      have := slotGo_agr (b := b) (t := t) own pos n (step1 P G x (b + u)).1 (step1 P G y (b + u)).1 (u + (step1 P G x (b + u)).2) (step1_off own pos ok).2.1 r1 h
      rw [← e1]
      exact this
    · exact ⟨r, Eq.refl _⟩
theorem flush_agr {P : PD} {S : Nat → Prop} {a b : SH} (r : ShR S a b) : ShR S (flush P a) (flush P b) := by
  unfold flush
  refine ⟨?_, ?_⟩
  · simp only
    split
    · exact Agr.rfl
    · exact r.sets
  · simp only
    split
    · rfl
    · exact r.pairs
theorem slot_agr {P : PD} {G : GD} {S T : Nat → Prop} {b t : Int} {x y : ST} (own : OwnS P.nset S G.frames) (pos : 0 < G.frames.length) (ok : InnOk G x.s.inn) (e : x.s = y.s) (sh : ShR S (flush P x.sh) (flush P y.sh)) (ch : Agr T x.ch y.ch) (h : ∀ w ∈ (slotY P G b t x).1.s.M.deeds, ∀ k, lookD G w k → T k) :
    StR S T (slotY P G b t x).1 (slotY P G b t y).1 ∧ (slotY P G b t x).2 = (slotY P G b t y).2 :=
  slotGo_agr own pos t.toNat (atSlot P x) (atSlot P y) 0 ok ⟨by unfold atSlot; rw [e], sh, ch⟩ h
theorem slot_off {P : PD} {G : GD} {S : Nat → Prop} {b t : Int} {x : ST} (own : OwnS P.nset S G.frames) (pos : 0 < G.frames.length) (ok : InnOk G x.s.inn) :
    Off S (flush P x.sh).sets (slotY P G b t x).1.sh.sets ∧ InnOk G (slotY P G b t x).1.s.inn ∧ Off (fun k => k ∈ G.to ∨ k ∈ G.frm) x.ch (slotY P G b t x).1.ch :=
  slotGo_off own pos t.toNat (atSlot P x) 0 ok
end Nw

set_option Elab.async false
set_option linter.all false
set_option maxRecDepth 100000
set_option maxHeartbeats 4000000
/-! Plans, by themselves. No program. -/
namespace Nw
open PySem PySem.Spec PyProof.Rows L2
structure PlanT where
  id : Str
  mem : Int
  sets : Nat
  ways : Nat
  keep : Str
  room : Nat
  lkeep : Str
  hit : Int
  miss : Int
  look : Int
  fault : Int
  names : List Str
  many : List Nat
  chans : List (Nat × Nat × Nat)
  slots : List (Nat × Int)
def PlanT.nm (p : PlanT) (k : Nat) : Str := p.names[k]?.getD Str.empty
def guestL (p : PlanT) : List W := (p.names.zip p.many).map fun x => .tup [.str x.1, .int x.2]
def chanW (p : PlanT) (c : Nat × Nat × Nat) : W := .tup [.str (p.nm c.1), .str (p.nm c.2.1), .int c.2.2]
def slotW (p : PlanT) (s : Nat × Int) : W := .tup [.str (p.nm s.1), .int s.2]
def ticksW (p : PlanT) : W := .tup [.int p.hit, .int p.miss, .int p.look, .int p.fault]
def planL (p : PlanT) : List W := [.str p.id, .int p.mem, .tup [.int p.sets, .int p.ways, .str p.keep], .tup [.int p.room, .str p.lkeep], ticksW p, .tup (guestL p), .tup (p.chans.map (chanW p)), .tup (p.slots.map (slotW p))]
abbrev planW (p : PlanT) : W := .tup (planL p)
section
variable (p : PlanT)
@[simp] theorem pl0 : (planL p)[0]? = some (.str p.id) := (rfl)
@[simp] theorem pl1 : (planL p)[1]? = some (.int p.mem) := (rfl)
@[simp] theorem pl2 : (planL p)[2]? = some (.tup [.int p.sets, .int p.ways, .str p.keep]) := (rfl)
@[simp] theorem pl3 : (planL p)[3]? = some (.tup [.int p.room, .str p.lkeep]) := (rfl)
@[simp] theorem pl4 : (planL p)[4]? = some (ticksW p) := (rfl)
@[simp] theorem pl5 : (planL p)[5]? = some (.tup (guestL p)) := (rfl)
@[simp] theorem pl6 : (planL p)[6]? = some (.tup (p.chans.map (chanW p))) := (rfl)
@[simp] theorem pl7 : (planL p)[7]? = some (.tup (p.slots.map (slotW p))) := (rfl)
theorem pll : (planL p).length = 8 := (rfl)
end
theorem range_nat (k : Nat) : rangeW 0 (k : Int) = (List.range k).map fun j => W.int ((j : Nat) : Int) := by
  unfold rangeW
  simp
/-- a guest's frames in a coloured plan -/
def colF (p : PlanT) (g m : Nat) : List Int := ((List.range (p.sets / 4 * (m + 1))).filterMap fun f => if f % (p.sets / 4) % p.names.length = g then some (f : Int) else none).take m
def rowF (at_ m : Nat) : List Int := (List.range m).map fun k => ((at_ + k : Nat) : Int)
/-- the frames of the guests from the g-th on; at_: the next free one -/
def framesL (p : PlanT) : Nat → Nat → List Nat → List (List Int)
  | _, _, [] => []
  | g, at_, m :: r => (if p.keep = (S [99, 111, 108, 111, 117, 114, 101, 100]) then colF p g m else rowF at_ m) :: framesL p (g + 1) (if p.keep = (S [99, 111, 108, 111, 117, 114, 101, 100]) then at_ else at_ + m) r
def framesT (p : PlanT) : List (List Int) := framesL p 0 0 p.many
def worstT (p : PlanT) : Int := mx p.fault (1 + 2 * (p.look + mx p.hit p.miss)) + p.fault
structure PlanOk (p : PlanT) : Prop where
  n0 : 1 ≤ p.names.length
  n1 : p.names.length ≤ 8
  nd : p.names.Nodup
  lm : p.many.length = p.names.length
  m0 : ∀ m ∈ p.many, 2 ≤ m ∧ m ≤ 64
  sets : p.names.length ≤ p.sets / 4 ∧ p.sets % 4 = 0 ∧ p.sets ≤ 64
  ways : 1 ≤ p.ways ∧ p.ways ≤ 4
  keep : p.keep = (S [115, 104, 97, 114, 101, 100]) ∨ p.keep = (S [102, 108, 117, 115, 104, 101, 100]) ∨ p.keep = (S [99, 111, 108, 111, 117, 114, 101, 100])
  room : 1 ≤ p.room ∧ p.room ≤ 16
  lkeep : p.lkeep = (S [115, 104, 97, 114, 101, 100]) ∨ p.lkeep = (S [102, 108, 117, 115, 104, 101, 100])
  ticks : 1 ≤ p.hit ∧ p.hit ≤ p.miss ∧ p.miss ≤ 1000 ∧ 1 ≤ p.look ∧ p.look ≤ 1000 ∧ 1 ≤ p.fault ∧ p.fault ≤ 1000
  ch : ∀ c ∈ p.chans, c.1 < p.names.length ∧ c.2.1 < p.names.length ∧ c.1 ≠ c.2.1 ∧ 1 ≤ c.2.2 ∧ c.2.2 ≤ 64
  chl : p.chans.length ≤ 100
  sl : ∀ s ∈ p.slots, s.1 < p.names.length ∧ worstT p ≤ s.2 ∧ s.2 ≤ 100000
  sl0 : p.slots ≠ []
  sl1 : p.slots.length ≤ 1000
  mem : ∀ fs ∈ framesT p, ∀ f ∈ fs, f < p.mem
  mem1 : p.mem ≤ 10000
theorem framesL_eq {p q : PlanT} (h1 : p.keep = q.keep) (h2 : p.sets = q.sets) (h3 : p.names = q.names) : ∀ (l : List Nat) (g a : Nat), framesL p g a l = framesL q g a l
  | [], _, _ => rfl
  | m :: r, g, a => by
    unfold framesL
    rw [framesL_eq h1 h2 h3 r, h1]
    unfold colF
    rw [h2, h3]
theorem framesL_len (p : PlanT) : ∀ (l : List Nat) (g at_ : Nat), (framesL p g at_ l).length = l.length
  | [], _, _ => rfl
  | m :: r, g, at_ => by unfold framesL; rw [List.length_cons, List.length_cons, framesL_len p r]
theorem PlanT.nm_of (p : PlanT) {k : Nat} (h : k < p.names.length) : p.names[k]? = some (p.nm k) := by unfold PlanT.nm; rw [List.getElem?_eq_getElem h]; rfl
theorem nodup_at {l : List Str} (nd : l.Nodup) {i j : Nat} {x : Str} (hi : l[i]? = some x) (hj : l[j]? = some x) : i = j := by
  obtain ⟨hi', ei⟩ := List.getElem?_eq_some_iff.mp hi
  obtain ⟨hj', ej⟩ := List.getElem?_eq_some_iff.mp hj
  have q := List.pairwise_iff_getElem.mp nd
  rcases Nat.lt_trichotomy i j with z | z | z
  · exact absurd (ei.trans ej.symm) (q i j hi' hj' z)
  · exact z
  · exact absurd (ej.trans ei.symm) (q j i hj' hi' z)
theorem PlanT.nm_inj {p : PlanT} (nd : p.names.Nodup) {i j : Nat} (hi : i < p.names.length) (hj : j < p.names.length) (e : p.nm i = p.nm j) : i = j :=
  nodup_at nd (p.nm_of hi) (by rw [e]; exact p.nm_of hj)
/-- names whose last sign tells their place -/
def lastC (x : Str) : Nat := x.cps.toList.getLast?.getD 0
theorem nodup_last {l : List Str} (h : ∀ i x, l[i]? = some x → lastC x = 48 + i) : l.Nodup := by
  refine List.pairwise_iff_getElem.mpr fun i j hi hj hij e => ?_
  have h1 := h i _ (List.getElem?_eq_getElem hi)
  have h2 := h j _ (List.getElem?_eq_getElem hj)
  rw [e] at h1
  omega
/-! ### frames -/
theorem colF_many (p : PlanT) {g : Nat} (hg : g < p.names.length) (hc : p.names.length ≤ p.sets / 4) : ∀ m : Nat, m ≤ ((List.range (p.sets / 4 * m)).filterMap fun f => if f % (p.sets / 4) % p.names.length = g then some (f : Int) else none).length
  | 0 => Nat.zero_le _
  | m + 1 => by
    have ih := colF_many p hg hc m
    rw [show p.sets / 4 * (m + 1) = p.sets / 4 * m + p.sets / 4 from by rw [Nat.mul_succ], List.range_add, List.filterMap_append, List.length_append]
    have : 0 < ((List.map (fun x => p.sets / 4 * m + x) (List.range (p.sets / 4))).filterMap fun f => if f % (p.sets / 4) % p.names.length = g then some (f : Int) else none).length := by
      refine List.length_pos_of_mem (a := ((p.sets / 4 * m + g : Nat) : Int)) (List.mem_filterMap.mpr ⟨p.sets / 4 * m + g, List.mem_map.mpr ⟨g, List.mem_range.mpr (by omega), rfl⟩, ?_⟩)
      rw [if_pos]
      rw [Nat.mul_add_mod, Nat.mod_eq_of_lt (show g < p.sets / 4 by omega), Nat.mod_eq_of_lt hg]
    omega
theorem colF_len (p : PlanT) {g m : Nat} (hg : g < p.names.length) (hc : p.names.length ≤ p.sets / 4) : (colF p g m).length = m := by
  unfold colF
  rw [List.length_take]
  have := colF_many p hg hc (m + 1)
  omega
theorem colF_mem (p : PlanT) {g m : Nat} {f : Int} (h : f ∈ colF p g m) : ∃ k : Nat, f = k ∧ k < p.sets / 4 * (m + 1) ∧ k % (p.sets / 4) % p.names.length = g := by
  have h := List.mem_of_mem_take h
  obtain ⟨k, hk, e⟩ := List.mem_filterMap.mp h
  split at e
  · cases e
    exact ⟨k, rfl, List.mem_range.mp hk, by assumption⟩
  · cases e
theorem rowF_mem {a m : Nat} {f : Int} (h : f ∈ rowF a m) : ∃ k : Nat, f = ((a + k : Nat) : Int) ∧ k < m := by
  obtain ⟨k, hk, e⟩ := List.mem_map.mp h
  exact ⟨k, e.symm, List.mem_range.mp hk⟩
theorem framesL_at (p : PlanT) : ∀ (l : List Nat) (g at_ j : Nat) (fs : List Int), (framesL p g at_ l)[j]? = some fs → ∃ m a, l[j]? = some m ∧ fs = if p.keep = (S [99, 111, 108, 111, 117, 114, 101, 100]) then colF p (g + j) m else rowF a m
  | [], _, _, j, fs, h => by simp [framesL] at h
  | m :: r, g, at_, 0, fs, h => by
    simp [framesL] at h
    exact ⟨m, at_, rfl, h.symm⟩
  | m :: r, g, at_, j + 1, fs, h => by
    simp only [framesL, List.getElem?_cons_succ] at h
    obtain ⟨m', a, h1, h2⟩ := framesL_at p r _ _ j fs h
    exact ⟨m', a, by simpa using h1, by rw [h2, show g + 1 + j = g + (j + 1) from by omega]⟩
theorem rowF_len (a m : Nat) : (rowF a m).length = m := by simp [rowF]
theorem framesT_len (p : PlanT) : (framesT p).length = p.many.length := framesL_len p _ _ _
/-- each guest has as many frames as it is given -/
theorem framesT_many (p : PlanT) (hc : p.names.length ≤ p.sets / 4) (lm : p.many.length = p.names.length) {g : Nat} {fs : List Int} (h : (framesT p)[g]? = some fs) : ∃ m, p.many[g]? = some m ∧ fs.length = m := by
  obtain ⟨m, a, h1, h2⟩ := framesL_at p _ _ _ _ _ h
  refine ⟨m, h1, ?_⟩
  have hg : g < p.many.length := (List.getElem?_eq_some_iff.mp h1).1
  rw [h2]
  split
  · exact colF_len p (by omega) hc
  · exact rowF_len _ _
/-- the i-th part of rows of frames that follow each other begins below what is given in all -/
theorem framesL_le (p : PlanT) {B : Nat} (hs : p.sets / 4 ≤ 16) (hB : ∀ m ∈ p.many, m ≤ B) : ∀ (l : List Nat) (g at_ : Nat), (∀ m ∈ l, m ≤ B) → ∀ fs ∈ framesL p g at_ l, ∀ f ∈ fs, 0 ≤ f ∧ f < ((at_ + l.length * B + 16 * (B + 1) : Nat) : Int)
  | [], _, _, _, fs, h => by simp [framesL] at h
  | m :: r, g, at_, hl, fs, h => by
    have hm := hl m (List.mem_cons_self ..)
    intro f hf
    have e1 : (m :: r).length * B = r.length * B + B := by rw [List.length_cons, Nat.succ_mul]
    unfold framesL at h
    rcases List.mem_cons.mp h with rfl | h
    · split at hf
      · obtain ⟨k, rfl, k1, _⟩ := colF_mem p hf
        have : p.sets / 4 * (m + 1) ≤ 16 * (B + 1) := Nat.mul_le_mul hs (by omega)
        omega
      · obtain ⟨k, rfl, k1⟩ := rowF_mem hf
        omega
    · have := framesL_le p hs hB r _ _ (fun x hx => hl x (List.mem_cons_of_mem _ hx)) fs h f hf
      split at this <;> omega
end Nw

set_option Elab.async false
set_option linter.all false
set_option maxRecDepth 100000
set_option maxHeartbeats 4000000
/-! Nw, part M: equality of simple data; views of a heap by roles. -/
namespace Nw
open PySem PySem.Spec PyProof.Rows L2
/-- data of None, ints, texts, tuples: equal just if they are the same -/
def simW : Nat → W → Bool
  | _, .non => true
  | _, .int _ => true
  | _, .str s => s.cps.all (· < 0x110000)
  | n + 1, .tup ws => ws.all (simW n)
  | _, _ => false
@[simp] theorem sim_n (n : Nat) : simW n .non = true := by cases n <;> rfl
@[simp] theorem sim_i (n : Nat) (i : Int) : simW n (.int i) = true := by cases n <;> rfl
@[simp] theorem sim_s (n : Nat) (s : List Nat) : simW n (.str (S s)) = s.all (· < 0x110000) := by cases n <;> simp [simW, S]
@[simp] theorem sim_t (n : Nat) (ws : List W) : simW (n + 1) (.tup ws) = ws.all (simW n) := (rfl)
theorem sim_lay : ∀ (n : Nat) (w : W), simW n w = true → layW n w = true
  | n, .non, _ => by cases n <;> rfl
  | n, .int i, _ => by cases n <;> rfl
  | 0, .str s, h => h
  | _ + 1, .str s, h => h
  | n + 1, .tup ws, h => by
    simp only [sim_t, List.all_eq_true] at h
    simp only [lay_t, List.all_eq_true]
    exact fun w hw => sim_lay n w (h w hw)
  | 0, .tup ws, h => by cases h
  | 0, .bl b, h => by cases h
  | _ + 1, .bl b, h => by cases h
  | 0, .rol ws, h => by cases h
  | _ + 1, .rol ws, h => by cases h
  | 0, .ref ws, h => by cases h
  | _ + 1, .ref ws, h => by cases h
mutual
theorem sim_eqv : ∀ (n : Nat) (a b : W) (d e : PyData), simW n a = true → simW n b = true → datP a = some d → datP b = some e → (PyData.eqv d e = true ↔ a = b)
  | n, .non, b, d, e, ha, hb, h1, h2 => by
    cases h1
    cases b with
    | non => cases h2; simp [PyData.eqv]
    | int i => cases h2; simp [PyData.eqv]
    | str s => simp only [datP] at h2; split at h2 <;> cases h2; simp [PyData.eqv]
    | tup ws => simp only [datP, Option.map_eq_some_iff] at h2; obtain ⟨ds, _, rfl⟩ := h2; simp [PyData.eqv]
    | _ => cases n <;> cases hb
  | n, .int i, b, d, e, ha, hb, h1, h2 => by
    cases h1
    cases b with
    | non => cases h2; simp [PyData.eqv]
    | int j => cases h2; simp [PyData.eqv]
    | str s => simp only [datP] at h2; split at h2 <;> cases h2; simp [PyData.eqv]
    | tup ws => simp only [datP, Option.map_eq_some_iff] at h2; obtain ⟨ds, _, rfl⟩ := h2; simp [PyData.eqv]
    | _ => cases n <;> cases hb
  | n, .str s, b, d, e, ha, hb, h1, h2 => by
    simp only [datP] at h1; split at h1 <;> cases h1
    cases b with
    | non => cases h2; simp [PyData.eqv]
    | int j => cases h2; simp [PyData.eqv]
    | str s => simp only [datP] at h2; split at h2 <;> cases h2; simp [PyData.eqv]
    | tup ws => simp only [datP, Option.map_eq_some_iff] at h2; obtain ⟨ds, _, rfl⟩ := h2; simp [PyData.eqv]
    | _ => cases n <;> cases hb
  | n + 1, .tup ws, b, d, e, ha, hb, h1, h2 => by
    simp only [datP, Option.map_eq_some_iff] at h1; obtain ⟨ds, h1, rfl⟩ := h1
    cases b with
    | non => cases h2; simp [PyData.eqv]
    | int j => cases h2; simp [PyData.eqv]
    | str s => simp only [datP] at h2; split at h2 <;> cases h2; simp [PyData.eqv]
    | tup zs =>
      simp only [datP, Option.map_eq_some_iff] at h2; obtain ⟨es, h2, rfl⟩ := h2
      simp only [sim_t] at ha hb
      have := sim_eqvs n ws zs ds es ha hb h1 h2
      simp [PyData.eqv, this]
    | _ => cases hb
  | 0, .tup ws, b, d, e, ha, hb, h1, h2 => by cases ha
  | 0, .bl _, b, d, e, ha, hb, h1, h2 => by cases ha
  | _ + 1, .bl _, b, d, e, ha, hb, h1, h2 => by cases ha
  | 0, .rol _, b, d, e, ha, hb, h1, h2 => by cases ha
  | _ + 1, .rol _, b, d, e, ha, hb, h1, h2 => by cases ha
  | 0, .ref _, b, d, e, ha, hb, h1, h2 => by cases ha
  | _ + 1, .ref _, b, d, e, ha, hb, h1, h2 => by cases ha
theorem sim_eqvs : ∀ (n : Nat) (a b : List W) (d e : List PyData), a.all (simW n) = true → b.all (simW n) = true → datPs a = some d → datPs b = some e → (PyData.eqvAll d e = true ↔ a = b)
  | n, [], b, d, e, ha, hb, h1, h2 => by
    cases h1
    cases b with
    | nil => cases h2; simp [PyData.eqvAll]
    | cons x xs =>
      simp only [datPs] at h2
      split at h2 <;> cases h2
      simp [PyData.eqvAll]
  | n, a :: as, b, d, e, ha, hb, h1, h2 => by
    simp only [datPs] at h1
    split at h1 <;> cases h1
    rename_i d0 ds hd hds
    cases b with
    | nil => cases h2; simp [PyData.eqvAll]
    | cons x xs =>
      simp only [datPs] at h2
      split at h2 <;> cases h2
      rename_i e0 es he hes
      simp only [List.all_cons, Bool.and_eq_true] at ha hb
      have i1 := sim_eqv n a x d0 e0 ha.1 hb.1 hd he
      have i2 := sim_eqvs n as xs ds es ha.2 hb.2 hds hes
      simp [PyData.eqvAll, i1, i2]
end
theorem eqD_sim {h : VH} {a b : W} [Decidable (a = b)] (ha : simW 50 a = true) (hb : simW 50 b = true) : eqD h a b = some (decide (a = b)) := by
  obtain ⟨d, d1, d2, d3⟩ := lay_dat 50 a (sim_lay 50 a ha)
  obtain ⟨e, e1, e2, e3⟩ := lay_dat 50 b (sim_lay 50 b hb)
  unfold eqD
  rw [datW_P h 12 a d d1, datW_P h 12 b e e1]
  show (if _ then _ else _) = _
  rw [if_pos ⟨shaped_of' d2 (by omega), shaped_of' e2 (by omega)⟩]
  have := sim_eqv 50 a b d e ha hb d1 e1
  congr 1
  by_cases c : a = b
  · rw [this.mpr c, decide_eq_true c]
  · rw [decide_eq_false c]
    cases h : PyData.eqv d e with
    | false => rfl
    | true => exact absurd (this.mp h) c
theorem eqW_t {h : VH} {a b : List W} [Decidable (a = b)] (ha : a.all (simW 49) = true) (hb : b.all (simW 49) = true) : eqW h (.tup a) (.tup b) = some (decide (a = b)) := by
  have := Classical.propDecidable (W.tup a = W.tup b)
  show eqD h _ _ = _
  rw [eqD_sim (a := .tup a) (b := .tup b) ha hb]
  congr 1
  simp
/-- lists of simple data -/
theorem eqW_l {h : VH} {r q : Nat} {a b : List W} [Decidable (a = b)] (hr : hg h r = some (.lst a)) (hq : hg h q = some (.lst b)) (ha : a.all (simW 50) = true) (hb : b.all (simW 50) = true) : eqW h (.ref r) (.ref q) = some (decide (a = b)) := by
  have la : a.all (layW 50) = true := by
    rw [List.all_eq_true] at ha ⊢
    exact fun w hw => sim_lay 50 w (ha w hw)
  have lb : b.all (layW 50) = true := by
    rw [List.all_eq_true] at hb ⊢
    exact fun w hw => sim_lay 50 w (hb w hw)
  obtain ⟨d, d1, d2, d3, d4⟩ := dat_lst la hr
  obtain ⟨e, e1, e2, e3, e4⟩ := dat_lst lb hq
  show eqD h _ _ = _
  unfold eqD
  rw [d1, e1]
  show (if _ then _ else _) = _
  have s1 : SeqAt.shaped (.list d) = true := shaped_of' d3 (by simp only [PyData.depth]; omega)
  have s2 : SeqAt.shaped (.list e) = true := shaped_of' e3 (by simp only [PyData.depth]; omega)
  rw [if_pos ⟨s1, s2⟩]
  have := sim_eqvs 50 a b d e ha hb d2 e2
  congr 1
  show PyData.eqvAll d e = _
  by_cases c : a = b
  · rw [this.mpr c, decide_eq_true c]
  · rw [decide_eq_false c]
    cases h : PyData.eqvAll d e with
    | false => rfl
    | true => exact absurd (this.mp h) c
/-- is a list the empty one -/
theorem eqW_nil {h : VH} {r q : Nat} {a : List W} (hr : hg h r = some (.lst a)) (hq : hg h q = some (.lst [])) (ha : a.all (simW 50) = true) : eqW h (.ref r) (.ref q) = some a.isEmpty := by
  have := Classical.propDecidable (a = [])
  rw [eqW_l hr hq ha (by simp)]
  congr 1
  cases a <;> simp

/-! ### a heap by roles -/
structure View {ι : Type} (h : VH) (adr : ι → Nat) (obj : ι → Option O) : Prop where
  get : ∀ x o, obj x = some o → hg h (adr x) = some o
  inj : ∀ x y, (obj x).isSome = true → (obj y).isSome = true → adr x = adr y → x = y
section
variable {ι : Type} [DecidableEq ι] {h h' : VH} {adr : ι → Nat} {obj obj' : ι → Option O}
theorem View.lt (v : View h adr obj) {x : ι} (hx : (obj x).isSome = true) : adr x < h.length := by
  obtain ⟨o, e⟩ := Option.isSome_iff_exists.mp hx
  exact lt_of_get (v.get x o e)
/-- an object is written -/
theorem View.set (v : View h adr obj) {x : ι} {o : O} (hx : (obj x).isSome = true) (e : ∀ y, obj' y = if y = x then some o else obj y) : View (hs h (adr x) o) adr obj' := by
  obtain ⟨o0, e0⟩ := Option.isSome_iff_exists.mp hx
  have live : ∀ y, (obj' y).isSome = true → (obj y).isSome = true := fun y hy => by
    rw [e] at hy
    split at hy
    · rename_i z; rw [z]; exact hx
    · exact hy
  refine ⟨fun y o' hy => ?_, fun y z hy hz => v.inj y z (live y hy) (live z hz)⟩
  rw [e] at hy
  split at hy
  · rename_i z; subst z; cases hy
    exact hg_hs (by rw [v.get _ _ e0]; rfl)
  · rename_i z
    rw [hg_ne (fun a => z (v.inj _ _ (by rw [hy]; rfl) hx a.symm))]
    exact v.get y o' hy
/-- a role gets a new object -/
theorem View.new (v : View h adr obj) {x : ι} {o : O} (e : ∀ y, obj' y = if y = x then some o else obj y) : View (hn h o) (fun y => if y = x then nx h 0 else adr y) obj' := by
  have old : ∀ y, y ≠ x → (obj' y).isSome = true → adr y < h.length := fun y hy hs => by
    rw [e, if_neg hy] at hs
    exact v.lt hs
  have ol : ∀ y, y ≠ x → obj' y = obj y := fun y hy => by rw [e, if_neg hy]
  refine ⟨fun y o' hy => ?_, fun y z hy hz => ?_⟩
  · by_cases c : y = x
    · subst c
      rw [e, if_pos rfl] at hy; cases hy
      simp
    · show hg _ (if y = x then _ else _) = _
      rw [if_neg c]
      rw [ol y c] at hy
      have := v.get y o' hy
      rw [hg_hn (by rw [this]; rfl)]; exact this
  · show (if y = x then _ else _) = (if z = x then _ else _) → _
    by_cases c : y = x
    · by_cases c' : z = x
      · intro _; rw [c, c']
      · rw [if_pos c, if_neg c']
        intro q
        have := old z c' hz
        unfold nx at q; omega
    · by_cases c' : z = x
      · rw [if_neg c, if_pos c']
        intro q
        have := old y c hy
        unfold nx at q; omega
      · rw [if_neg c, if_neg c']
        exact v.inj y z (by rw [← ol y c]; exact hy) (by rw [← ol z c']; exact hz)
theorem View.mod {s : Nat → Prop} (v : View h adr obj) (m : Mod s h h') (n : ∀ x, (obj x).isSome = true → ¬ s (adr x)) : View h' adr obj :=
  ⟨fun x o e => m.get (v.get x o e) (n x (by rw [e]; rfl)), v.inj⟩
theorem View.mno (v : View h adr obj) (m : Mod no h h') : View h' adr obj := v.mod m fun _ _ z => z
theorem View.hn (v : View h adr obj) {o : O} : View (hn h o) adr obj := v.mno Mod.new
theorem View.congr (v : View h adr obj) (e : ∀ x, obj' x = obj x) : View h adr obj' := by
  have : obj' = obj := funext e
  rw [this]; exact v
theorem View.adr' {adr' : ι → Nat} (v : View h adr obj) (e : ∀ x, (obj x).isSome = true → adr' x = adr x) : View h adr' obj :=
  ⟨fun x o q => by rw [e x (by rw [q]; rfl)]; exact v.get x o q, fun x y hx hy q => v.inj x y hx hy (by rw [← e x hx, ← e y hy]; exact q)⟩
theorem View.ne (v : View h adr obj) {x y : ι} (hx : (obj x).isSome = true) (hy : (obj y).isSome = true) (n : x ≠ y) : adr x ≠ adr y := fun z => n (v.inj x y hx hy z)
end
end Nw

set_option Elab.async false
set_option linter.all false
set_option maxRecDepth 100000
set_option maxHeartbeats 0
/-! Printed by gen.py: the evaluator's form of the linked program. -/
namespace Nw
open PySem PySem.Spec PyProof.Rows L2
abbrev f_names_of : Nat := 0
abbrev f_channels_to : Nat := 1
abbrev f_teller : Nat := 2
abbrev f_hears : Nat := 3
abbrev f_heard_in : Nat := 4
abbrev f_heard : Nat := 5
abbrev f_law_draws : Nat := 6
abbrev f_law_next : Nat := 7
abbrev f_law_pick : Nat := 8
abbrev f_law_word : Nat := 9
abbrev f_law_signs : Nat := 10
abbrev f_law_operate : Nat := 11
abbrev f_law_number : Nat := 12
abbrev f_law_code_word : Nat := 13
abbrev f_law_machine : Nat := 14
abbrev f_law_met : Nat := 15
abbrev f_law_told : Nat := 16
abbrev f_law_instruction : Nat := 17
abbrev f_law_reach : Nat := 18
abbrev f_law_piece : Nat := 19
abbrev f_law_guest : Nat := 20
abbrev f_law_frames : Nat := 21
abbrev f_law_worst : Nat := 22
abbrev f_law_plan : Nat := 23
abbrev f_law_hears : Nat := 24
abbrev f_law_system : Nat := 25
abbrev f_law_bring : Nat := 26
abbrev f_law_meet : Nat := 27
abbrev f_law_wait : Nat := 28
abbrev f_law_answer : Nat := 29
abbrev f_law_step : Nat := 30
abbrev f_law_slot : Nat := 31
abbrev f_law_run_plan : Nat := 32
abbrev f_law_same : Nat := 33
abbrev f_law_heard : Nat := 34
abbrev f_law_asks : Nat := 35
abbrev f_law : Nat := 36
def e_names_of_1 : E := (.var 1)
def b_names_of : List Sm := [
  .ret (some (.lc e_names_of_1 [1, 2] (.tp [(.nm 1), (.nm 2)]) .plain [(.ix (.var 0) (.cst (.int 5)))] []))]
def e_channels_to_1 : E := (.var 3)
def t_channels_to_1 : List E := [(.cmp .eq (.ix (.ix (.ix (.var 0) (.cst (.int 6))) (.var 3)) (.cst (.int 1))) (.var 2))]
def b_channels_to : List Sm := [
  .set (.nm 2) (.ix (.ix (.ix (.var 0) (.cst (.int 5))) (.var 1)) (.cst (.int 0))),
  .ret (some (.bi .tuple [(.lc e_channels_to_1 [3] (.nm 3) .range [(.bi .len [(.ix (.var 0) (.cst (.int 6)))])] t_channels_to_1)]))]
def b_teller : List Sm := [
  .ret (some (.mth (.call f_names_of [(.var 0)]) (S [105, 110, 100, 101, 120]) [(.ix (.ix (.ix (.var 0) (.cst (.int 6))) (.var 1)) (.cst (.int 0)))]))]
def e_hears_1 : E := (.call f_teller [(.var 0), (.var 5)])
def l_hears_1 : List Sm := [
  .set (.nm 4) (.mth (.var 3) (S [112, 111, 112]) []),
  .ife (.cmp .notin (.var 4) (.var 2)) [
    .ex (.mth (.var 2) (S [97, 112, 112, 101, 110, 100]) [(.var 4)]),
    .ex (.mth (.var 3) (S [101, 120, 116, 101, 110, 100]) [(.lc e_hears_1 [5] (.nm 5) .plain [(.call f_channels_to [(.var 0), (.var 4)])] [])])] []]
def b_hears : List Sm := [
  .set (.nm 2) (.lst []),
  .set (.nm 3) (.lst [(.var 1)]),
  .whl (.cmp .ne (.var 3) (.lst [])) l_hears_1,
  .ret (some (.bi .tuple [(.bi .sorted [(.var 2)])]))]
def l_heard_in_2 : List Sm := [
  .ife (.cmp .notin (.var 7) (.var 4)) [
    .ex (.mth (.var 4) (S [97, 112, 112, 101, 110, 100]) [(.var 7)])] []]
def l_heard_in_1 : List Sm := [
  .ife (.and [(.cmp .isin (.ix (.var 6) (.cst (.int 0))) (.tup [(.cst (.str (S [97, 115, 107]))), (.cst (.str (S [116, 97, 107, 101])))])), (.cmp .lt (.ix (.var 6) (.cst (.int 1))) (.bi .len [(.var 5)]))]) [
    .for (.nm 7) .plain [(.ix (.var 2) (.call f_teller [(.var 0), (.ix (.var 5) (.ix (.var 6) (.cst (.int 1))))]))] l_heard_in_2] []]
def b_heard_in : List Sm := [
  .set (.nm 3) (.ix (.var 1) (.cst (.int 0))),
  .set (.nm 4) (.bi .list [(.ix (.var 2) (.var 3))]),
  .set (.nm 5) (.call f_channels_to [(.var 0), (.var 3)]),
  .for (.nm 6) .plain [(.ix (.var 1) (.cst (.int 3)))] l_heard_in_1,
  .ret (some (.var 4))]
def e_heard_1 : E := (.lst [(.var 5)])
def l_heard_1 : List Sm := [
  .set (.sub (.var 2) (.ix (.var 4) (.cst (.int 0)))) (.call f_heard_in [(.var 0), (.var 4), (.var 2)]),
  .ex (.mth (.var 3) (S [97, 112, 112, 101, 110, 100]) [(.bi .tuple [(.bi .sorted [(.ix (.var 2) (.ix (.var 4) (.cst (.int 0))))])])])]
def b_heard : List Sm := [
  .set (.nm 2) (.lc e_heard_1 [5] (.nm 5) .range [(.bi .len [(.ix (.var 0) (.cst (.int 5)))])] []),
  .set (.nm 3) (.lst []),
  .for (.nm 4) .plain [(.var 1)] l_heard_1,
  .ret (some (.bi .tuple [(.var 3)]))]
def l_law_draws_2 : List Sm := [
  .ife (.cmp .gt (.var 6) (.cst (.int 0))) [
    .ex (.mth (.var 2) (S [97, 112, 112, 101, 110, 100]) [(.bin .mod (.bi .int [(.var 6)]) (.cst (.int 997)))]),
    .set (.nm 6) (.bin .fdiv (.var 6) (.cst (.int 997)))] []]
def l_law_draws_1 : List Sm := [
  .set (.nm 5) (.bi .abs [(.bi .int [(.ix (.var 0) (.var 4))])]),
  .set (.nm 3) (.bin .mod (.bi .int [(.bin .add (.bin .add (.bin .mul (.var 3) (.cst (.int 48271))) (.bin .mod (.var 5) (.cst (.int 1000003)))) (.var 4))]) (.cst (.int 65537))),
  .set (.nm 6) (.cst (.int 0)),
  .ife (.cmp .ge (.var 5) (.bin .pow (.cst (.int 10)) (.cst (.int 18)))) [
    .set (.nm 6) (.var 5)] [
    .ex (.mth (.var 2) (S [97, 112, 112, 101, 110, 100]) [(.bin .mod (.bi .int [(.var 5)]) (.cst (.int 997)))]),
    .ex (.mth (.var 2) (S [97, 112, 112, 101, 110, 100]) [(.bin .mod (.bin .mod (.bi .int [(.bin .add (.bin .mul (.var 3) (.cst (.int 69621))) (.cst (.int 5)))]) (.cst (.int 65521))) (.cst (.int 997)))])],
  .for (.nm 7) .range [(.cst (.int 60))] l_law_draws_2]
def l_law_draws_3 : List Sm := [
  .set (.nm 3) (.bin .mod (.bi .int [(.bin .add (.bin .add (.bin .mul (.var 3) (.cst (.int 16807))) (.var 4)) (.cst (.int 1)))]) (.cst (.int 65537))),
  .ex (.mth (.var 2) (S [97, 112, 112, 101, 110, 100]) [(.bin .mod (.bi .int [(.var 3)]) (.cst (.int 997)))])]
def b_law_draws : List Sm := [
  .set (.nm 2) (.lst []),
  .set (.nm 3) (.cst (.int 7)),
  .for (.nm 4) .range [(.bi .len [(.var 0)])] l_law_draws_1,
  .for (.nm 4) .range [(.var 1)] l_law_draws_3,
  .ret (some (.sl (.var 2) none (some (.var 1))))]
def b_law_next : List Sm := [
  .augS (.var 0) (.cst (.str (S [97, 116]))) .add (.cst (.int 1)),
  .ife (.cmp .gt (.ix (.var 0) (.cst (.str (S [97, 116])))) (.bi .len [(.ix (.var 0) (.cst (.str (S [100, 114, 97, 119, 115]))))])) [
    .ret (some (.cst (.int 0)))] [],
  .ret (some (.bin .mod (.bi .int [(.ix (.ix (.var 0) (.cst (.str (S [100, 114, 97, 119, 115])))) (.bin .sub (.ix (.var 0) (.cst (.str (S [97, 116])))) (.cst (.int 1))))]) (.var 1)))]
def b_law_pick : List Sm := [
  .ret (some (.ix (.var 1) (.call f_law_next [(.var 0), (.bi .len [(.var 1)])])))]
def b_law_word : List Sm := [
  .set (.nm 1) (.call f_law_next [(.var 0), (.cst (.int 8))]),
  .ife (.cmp .lt (.var 1) (.cst (.int 3))) [
    .ret (some (.call f_law_next [(.var 0), (.cst (.int 6))]))] [],
  .ife (.cmp .eq (.var 1) (.cst (.int 3))) [
    .ret (some (.call f_law_pick [(.var 0), (.lst [(.cst (.int 31)), (.cst (.int 32)), (.cst (.int 33)), (.cst (.int 65535)), (.cst (.int 65536)), (.cst (.int 2147483647)), (.cst (.int 2147483648)), (.cst (.int 4294967295))])]))] [],
  .ife (.cmp .eq (.var 1) (.cst (.int 4))) [
    .ret (some (.bin .sub (.cst (.int 4294967295)) (.call f_law_next [(.var 0), (.cst (.int 4))])))] [],
  .ife (.cmp .eq (.var 1) (.cst (.int 5))) [
    .ret (some (.call f_law_next [(.var 0), (.cst (.int 997))]))] [],
  .set (.nm 2) (.bin .add (.bin .mul (.call f_law_next [(.var 0), (.cst (.int 997))]) (.cst (.int 994009))) (.bin .mul (.call f_law_next [(.var 0), (.cst (.int 997))]) (.cst (.int 997)))),
  .ret (some (.bin .mod (.bi .int [(.bin .add (.bin .mul (.var 2) (.cst (.int 7))) (.call f_law_next [(.var 0), (.cst (.int 997))]))]) (.cst (.int 4294967296))))]
def b_law_signs : List Sm := [
  .ret (some (.tup [(.cst (.str (S [43]))), (.cst (.str (S [45]))), (.cst (.str (S [42]))), (.cst (.str (S [47]))), (.cst (.str (S [64]))), (.cst (.str (S [38]))), (.cst (.str (S [124]))), (.cst (.str (S [94]))), (.cst (.str (S [61, 61]))), (.cst (.str (S [60]))), (.cst (.str (S [60, 60]))), (.cst (.str (S [62, 62])))]))]
def b_law_operate : List Sm := [
  .ife (.cmp .eq (.var 0) (.cst (.str (S [43])))) [
    .ret (some (.bin .mod (.bi .int [(.bin .add (.var 1) (.var 2))]) (.cst (.int 4294967296))))] [],
  .ife (.cmp .eq (.var 0) (.cst (.str (S [45])))) [
    .ret (some (.bin .mod (.bi .int [(.bin .sub (.var 1) (.var 2))]) (.cst (.int 4294967296))))] [],
  .ife (.cmp .eq (.var 0) (.cst (.str (S [42])))) [
    .ret (some (.bin .mod (.bi .int [(.bin .mul (.var 1) (.var 2))]) (.cst (.int 4294967296))))] [],
  .ife (.cmp .eq (.var 0) (.cst (.str (S [47])))) [
    .ret (some (.ite (.cmp .eq (.var 2) (.cst (.int 0))) (.cst (.int 0)) (.bin .fdiv (.var 1) (.var 2))))] [],
  .ife (.cmp .eq (.var 0) (.cst (.str (S [38])))) [
    .ret (some (.bin .band (.var 1) (.var 2)))] [],
  .ife (.cmp .eq (.var 0) (.cst (.str (S [124])))) [
    .ret (some (.bin .bor (.var 1) (.var 2)))] [],
  .ife (.cmp .eq (.var 0) (.cst (.str (S [94])))) [
    .ret (some (.bin .bxor (.var 1) (.var 2)))] [],
  .ife (.cmp .eq (.var 0) (.cst (.str (S [61, 61])))) [
    .ret (some (.bi .int [(.cmp .eq (.var 1) (.var 2))]))] [],
  .ife (.cmp .eq (.var 0) (.cst (.str (S [60])))) [
    .ret (some (.bi .int [(.cmp .lt (.var 1) (.var 2))]))] [],
  .ife (.cmp .eq (.var 0) (.cst (.str (S [60, 60])))) [
    .ret (some (.ite (.cmp .gt (.var 2) (.cst (.int 31))) (.cst (.int 0)) (.bin .mod (.bi .int [(.bin .shl (.var 1) (.var 2))]) (.cst (.int 4294967296)))))] [],
  .ife (.cmp .eq (.var 0) (.cst (.str (S [62, 62])))) [
    .ret (some (.ite (.cmp .gt (.var 2) (.cst (.int 31))) (.cst (.int 0)) (.bin .shr (.var 1) (.var 2))))] [],
  .ret (some (.ite (.cmp .eq (.var 2) (.cst (.int 0))) (.var 1) (.bin .mod (.bi .int [(.var 1)]) (.var 2))))]
def b_law_number : List Sm := [
  .set (.nm 1) (.lst [(.cst (.str (S [101, 110, 100]))), (.cst (.str (S [115, 101, 116]))), (.cst (.str (S [104, 105, 103, 104]))), (.cst (.str (S [111, 112]))), (.cst (.str (S [108, 111, 97, 100]))), (.cst (.str (S [115, 116, 111, 114, 101]))), (.cst (.str (S [103, 111]))), (.cst (.str (S [117, 110, 108, 101, 115, 115]))), (.cst (.str (S [99, 97, 108, 108]))), (.cst (.str (S [98, 97, 99, 107]))), (.cst (.str (S [115, 101, 110, 100]))), (.cst (.str (S [97, 115, 107]))), (.cst (.str (S [116, 97, 107, 101]))), (.cst (.str (S [116, 105, 109, 101]))), (.cst (.str (S [114, 101, 115, 116])))]),
  .ret (some (.mth (.var 1) (S [105, 110, 100, 101, 120]) [(.var 0)]))]
def b_law_code_word : List Sm := [
  .set (.nm 1) (.ix (.var 0) (.cst (.int 0))),
  .set (.nm 2) (.bin .mul (.call f_law_number [(.var 1)]) (.cst (.int 134217728))),
  .ife (.cmp .eq (.var 1) (.cst (.str (S [101, 110, 100])))) [
    .ret (some (.bin .add (.var 2) (.bi .int [(.cmp .eq (.ix (.var 0) (.cst (.int 1))) (.cst (.str (S [98, 111, 117, 110, 100]))))])))] [],
  .ife (.cmp .eq (.var 1) (.cst (.str (S [111, 112])))) [
    .set (.nm 3) (.mth (.bi .list [(.call f_law_signs [])]) (S [105, 110, 100, 101, 120]) [(.ix (.var 0) (.cst (.int 1)))]),
    .ret (some (.bin .add (.bin .add (.bin .add (.bin .add (.var 2) (.bin .mul (.ix (.var 0) (.cst (.int 2))) (.cst (.int 16777216)))) (.bin .mul (.ix (.var 0) (.cst (.int 3))) (.cst (.int 2097152)))) (.bin .mul (.var 3) (.cst (.int 131072)))) (.ix (.var 0) (.cst (.int 4)))))] [],
  .ife (.cmp .isin (.var 1) (.tup [(.cst (.str (S [108, 111, 97, 100]))), (.cst (.str (S [115, 116, 111, 114, 101])))])) [
    .ret (some (.bin .add (.bin .add (.bin .add (.var 2) (.bin .mul (.ix (.var 0) (.cst (.int 1))) (.cst (.int 16777216)))) (.bin .mul (.ix (.var 0) (.cst (.int 2))) (.cst (.int 2097152)))) (.ix (.var 0) (.cst (.int 3)))))] [],
  .ife (.cmp .eq (.var 1) (.cst (.str (S [115, 101, 110, 100])))) [
    .ret (some (.bin .add (.bin .add (.var 2) (.bin .mul (.ix (.var 0) (.cst (.int 2))) (.cst (.int 16777216)))) (.ix (.var 0) (.cst (.int 1)))))] [],
  .ife (.cmp .isin (.var 1) (.tup [(.cst (.str (S [115, 101, 116]))), (.cst (.str (S [104, 105, 103, 104]))), (.cst (.str (S [117, 110, 108, 101, 115, 115]))), (.cst (.str (S [99, 97, 108, 108]))), (.cst (.str (S [97, 115, 107]))), (.cst (.str (S [116, 97, 107, 101])))])) [
    .ret (some (.bin .add (.bin .add (.var 2) (.bin .mul (.ix (.var 0) (.cst (.int 1))) (.cst (.int 16777216)))) (.ix (.var 0) (.cst (.int 2)))))] [],
  .ife (.cmp .isin (.var 1) (.tup [(.cst (.str (S [98, 97, 99, 107]))), (.cst (.str (S [116, 105, 109, 101])))])) [
    .ret (some (.bin .add (.var 2) (.bin .mul (.ix (.var 0) (.cst (.int 1))) (.cst (.int 16777216)))))] [],
  .ret (some (.ite (.cmp .eq (.var 1) (.cst (.str (S [103, 111])))) (.bin .add (.var 2) (.ix (.var 0) (.cst (.int 1)))) (.var 2)))]
def e_law_machine_1 : E := (.call f_law_code_word [(.var 7)])
def b_law_machine : List Sm := [
  .set (.tp [(.nm 2), (.nm 3), (.nm 4)]) (.var 0),
  .set (.nm 5) (.bin .mul (.bin .fdiv (.bin .add (.bi .len [(.var 2)]) (.cst (.int 15))) (.cst (.int 16))) (.cst (.int 16))),
  .set (.nm 6) (.bin .add (.bin .add (.lc e_law_machine_1 [7] (.nm 7) .plain [(.var 2)] []) (.bin .mul (.lst [(.cst (.int 0))]) (.bin .sub (.var 5) (.bi .len [(.var 2)])))) (.bi .list [(.var 4)])),
  .set (.nm 6) (.bin .add (.var 6) (.bin .mul (.lst [(.cst (.int 0))]) (.bin .sub (.bin .mul (.bin .fdiv (.bin .add (.bi .len [(.var 6)]) (.cst (.int 15))) (.cst (.int 16))) (.cst (.int 16))) (.bi .len [(.var 6)])))),
  .ret (some (.dct [.inr (S [99, 111, 100, 101]), .inr (S [109, 101, 109, 111, 114, 121]), .inr (S [98, 97, 115, 101]), .inr (S [114, 101, 103, 115]), .inr (S [97, 116]), .inr (S [97, 110, 115, 119, 101, 114, 115]), .inr (S [103, 105, 118, 101, 110]), .inr (S [100, 101, 101, 100, 115]), .inr (S [119, 111, 114, 100]), .inr (S [100, 111, 110, 101]), .inr (S [109, 101, 116])] [(.var 2), (.var 6), (.var 5), (.bin .mul (.lst [(.cst (.int 0))]) (.cst (.int 8))), (.cst (.int 0)), (.var 1), (.cst (.int 0)), (.lst []), (.cst (.str (S []))), (.cst (.int 0)), (.lst [])]))]
def b_law_met : List Sm := [
  .set (.tp [(.nm 2), (.nm 3)]) (.tup [(.ix (.var 0) (.cst (.str (S [114, 101, 103, 115])))), (.ix (.var 0) (.cst (.str (S [109, 101, 109, 111, 114, 121]))))]),
  .set (.nm 4) (.bin .mod (.bi .int [(.bin .add (.ix (.var 2) (.ix (.var 1) (.cst (.int 2)))) (.ix (.var 1) (.cst (.int 3))))]) (.cst (.int 4294967296))),
  .ex (.mth (.ix (.var 0) (.cst (.str (S [109, 101, 116])))) (S [97, 112, 112, 101, 110, 100]) [(.tup [(.bin .sub (.ix (.var 0) (.cst (.str (S [97, 116])))) (.cst (.int 1))), (.var 4)])]),
  .ife (.or [(.cmp .ge (.var 4) (.bi .len [(.var 3)])), (.and [(.cmp .eq (.ix (.var 1) (.cst (.int 0))) (.cst (.str (S [115, 116, 111, 114, 101])))), (.cmp .lt (.var 4) (.ix (.var 0) (.cst (.str (S [98, 97, 115, 101])))))])]) [
    .set (.sub (.var 0) (.cst (.str (S [119, 111, 114, 100])))) (.cst (.str (S [102, 97, 117, 108, 116])))] [
    .ife (.cmp .eq (.ix (.var 1) (.cst (.int 0))) (.cst (.str (S [108, 111, 97, 100])))) [
      .set (.sub (.var 2) (.ix (.var 1) (.cst (.int 1)))) (.ix (.var 3) (.var 4))] [
      .set (.sub (.var 3) (.var 4)) (.ix (.var 2) (.ix (.var 1) (.cst (.int 1))))]]]
def b_law_told : List Sm := [
  .set (.nm 2) (.ix (.var 0) (.cst (.str (S [114, 101, 103, 115])))),
  .ife (.cmp .eq (.ix (.var 1) (.cst (.int 0))) (.cst (.str (S [115, 101, 110, 100])))) [
    .ex (.mth (.ix (.var 0) (.cst (.str (S [100, 101, 101, 100, 115])))) (S [97, 112, 112, 101, 110, 100]) [(.tup [(.cst (.str (S [115, 101, 110, 100]))), (.ix (.var 1) (.cst (.int 1))), (.ix (.var 2) (.ix (.var 1) (.cst (.int 2))))])])] [
    .ife (.cmp .eq (.ix (.var 1) (.cst (.int 0))) (.cst (.str (S [114, 101, 115, 116])))) [
      .ex (.mth (.ix (.var 0) (.cst (.str (S [100, 101, 101, 100, 115])))) (S [97, 112, 112, 101, 110, 100]) [(.tup [(.cst (.str (S [114, 101, 115, 116])))])])] [
      .ife (.cmp .eq (.ix (.var 0) (.cst (.str (S [103, 105, 118, 101, 110])))) (.bi .len [(.ix (.var 0) (.cst (.str (S [97, 110, 115, 119, 101, 114, 115]))))])) [
        .set (.sub (.var 0) (.cst (.str (S [119, 111, 114, 100])))) (.cst (.str (S [111, 112, 101, 110])))] [
        .set (.nm 3) (.ix (.ix (.var 0) (.cst (.str (S [97, 110, 115, 119, 101, 114, 115])))) (.ix (.var 0) (.cst (.str (S [103, 105, 118, 101, 110]))))),
        .augS (.var 0) (.cst (.str (S [103, 105, 118, 101, 110]))) .add (.cst (.int 1)),
        .set (.sub (.var 2) (.ix (.var 1) (.cst (.int 1)))) (.var 3),
        .ex (.mth (.ix (.var 0) (.cst (.str (S [100, 101, 101, 100, 115])))) (S [97, 112, 112, 101, 110, 100]) [(.ite (.cmp .eq (.ix (.var 1) (.cst (.int 0))) (.cst (.str (S [116, 105, 109, 101])))) (.tup [(.cst (.str (S [116, 105, 109, 101]))), (.var 3)]) (.tup [(.ix (.var 1) (.cst (.int 0))), (.ix (.var 1) (.cst (.int 2))), (.var 3)]))])]]]]
def b_law_instruction : List Sm := [
  .set (.tp [(.nm 2), (.nm 3)]) (.tup [(.ix (.var 1) (.cst (.int 0))), (.ix (.var 0) (.cst (.str (S [114, 101, 103, 115]))))]),
  .augS (.var 0) (.cst (.str (S [97, 116]))) .add (.cst (.int 1)),
  .ife (.cmp .eq (.var 2) (.cst (.str (S [115, 101, 116])))) [
    .set (.sub (.var 3) (.ix (.var 1) (.cst (.int 1)))) (.ix (.var 1) (.cst (.int 2)))] [
    .ife (.cmp .eq (.var 2) (.cst (.str (S [104, 105, 103, 104])))) [
      .set (.sub (.var 3) (.ix (.var 1) (.cst (.int 1)))) (.bin .add (.bin .mul (.ix (.var 1) (.cst (.int 2))) (.cst (.int 65536))) (.bin .mod (.bi .int [(.ix (.var 3) (.ix (.var 1) (.cst (.int 1))))]) (.cst (.int 65536))))] [
      .ife (.cmp .eq (.var 2) (.cst (.str (S [111, 112])))) [
        .set (.sub (.var 3) (.ix (.var 1) (.cst (.int 2)))) (.call f_law_operate [(.ix (.var 1) (.cst (.int 1))), (.ix (.var 3) (.ix (.var 1) (.cst (.int 3)))), (.ix (.var 3) (.ix (.var 1) (.cst (.int 4))))])] [
        .ife (.cmp .isin (.var 2) (.tup [(.cst (.str (S [108, 111, 97, 100]))), (.cst (.str (S [115, 116, 111, 114, 101])))])) [
          .ex (.call f_law_met [(.var 0), (.var 1)])] [
          .ife (.cmp .eq (.var 2) (.cst (.str (S [103, 111])))) [
            .set (.sub (.var 0) (.cst (.str (S [97, 116])))) (.ix (.var 1) (.cst (.int 1)))] [
            .ife (.cmp .eq (.var 2) (.cst (.str (S [117, 110, 108, 101, 115, 115])))) [
              .ife (.cmp .eq (.ix (.var 3) (.ix (.var 1) (.cst (.int 1)))) (.cst (.int 0))) [
                .set (.sub (.var 0) (.cst (.str (S [97, 116])))) (.ix (.var 1) (.cst (.int 2)))] []] [
              .ife (.cmp .eq (.var 2) (.cst (.str (S [99, 97, 108, 108])))) [
                .set (.sub (.var 3) (.ix (.var 1) (.cst (.int 1)))) (.ix (.var 0) (.cst (.str (S [97, 116])))),
                .set (.sub (.var 0) (.cst (.str (S [97, 116])))) (.ix (.var 1) (.cst (.int 2)))] [
                .ife (.cmp .eq (.var 2) (.cst (.str (S [98, 97, 99, 107])))) [
                  .set (.sub (.var 0) (.cst (.str (S [97, 116])))) (.ix (.var 3) (.ix (.var 1) (.cst (.int 1))))] [
                  .ife (.cmp .eq (.var 2) (.cst (.str (S [101, 110, 100])))) [
                    .set (.sub (.var 0) (.cst (.str (S [119, 111, 114, 100])))) (.ix (.var 1) (.cst (.int 1)))] [
                    .ex (.call f_law_told [(.var 0), (.var 1)])]]]]]]]]],
  .set (.sub (.var 3) (.cst (.int 0))) (.cst (.int 0))]
def b_law_reach : List Sm := [
  .set (.tp [(.nm 3), (.nm 4)]) (.tup [(.call f_law_next [(.var 0), (.cst (.int 8))]), (.call f_law_next [(.var 0), (.cst (.int 24))])]),
  .set (.nm 5) (.call f_law_pick [(.var 0), (.lst [(.cst (.str (S [108, 111, 97, 100]))), (.cst (.str (S [108, 111, 97, 100]))), (.cst (.str (S [115, 116, 111, 114, 101])))])]),
  .ife (.cmp .eq (.var 4) (.cst (.int 0))) [
    .ex (.mth (.var 1) (S [97, 112, 112, 101, 110, 100]) [(.tup [(.call f_law_pick [(.var 0), (.lst [(.cst (.str (S [108, 111, 97, 100]))), (.cst (.str (S [108, 111, 97, 100]))), (.cst (.str (S [108, 111, 97, 100]))), (.cst (.str (S [108, 111, 97, 100]))), (.cst (.str (S [115, 116, 111, 114, 101])))])]), (.var 3), (.call f_law_pick [(.var 0), (.lst [(.cst (.int 0)), (.cst (.int 0)), (.cst (.int 0)), (.cst (.int 3))])]), (.call f_law_next [(.var 0), (.cst (.int 40))])])])] [
    .ife (.and [(.cmp .eq (.var 4) (.cst (.int 1))), (.cmp .eq (.call f_law_next [(.var 0), (.cst (.int 3))]) (.cst (.int 0)))]) [
      .ex (.mth (.var 1) (S [97, 112, 112, 101, 110, 100]) [(.tup [(.var 5), (.var 3), (.cst (.int 0)), (.bin .sub (.bin .sub (.neg (.cst (.int 1))) (.var 2)) (.call f_law_next [(.var 0), (.cst (.int 30))]))])])] [
      .ife (.cmp .lt (.var 4) (.cst (.int 6))) [
        .set (.nm 6) (.bin .add (.cst (.int 1)) (.call f_law_next [(.var 0), (.cst (.int 7))])),
        .ex (.mth (.var 1) (S [97, 112, 112, 101, 110, 100]) [(.tup [(.cst (.str (S [115, 101, 116]))), (.var 6), (.call f_law_next [(.var 0), (.bi .max [(.cst (.int 1)), (.bin .fdiv (.var 2) (.cst (.int 2)))])])])]),
        .ex (.mth (.var 1) (S [97, 112, 112, 101, 110, 100]) [(.tup [(.var 5), (.var 3), (.var 6), (.bin .sub (.neg (.cst (.int 1))) (.call f_law_next [(.var 0), (.bi .max [(.cst (.int 1)), (.bin .fdiv (.var 2) (.cst (.int 2)))])]))])])] [
        .ife (.cmp .gt (.var 2) (.cst (.int 0))) [
          .ex (.mth (.var 1) (S [97, 112, 112, 101, 110, 100]) [(.tup [(.var 5), (.var 3), (.cst (.int 0)), (.bin .sub (.neg (.cst (.int 1))) (.call f_law_next [(.var 0), (.var 2)]))])])] []]]]]
def l_law_piece_1 : List Sm := [
  .ex (.mth (.var 1) (S [97, 112, 112, 101, 110, 100]) [(.tup [(.cst (.str (S [111, 112]))), (.cst (.str (S [43]))), (.var 3), (.var 4), (.var 5)])])]
def b_law_piece : List Sm := [
  .set (.tp [(.nm 3), (.nm 4), (.nm 5), (.nm 6)]) (.tup [(.call f_law_next [(.var 0), (.cst (.int 8))]), (.call f_law_next [(.var 0), (.cst (.int 8))]), (.call f_law_next [(.var 0), (.cst (.int 8))]), (.call f_law_next [(.var 0), (.cst (.int 20))])]),
  .set (.nm 7) (.call f_law_pick [(.var 0), (.lst [(.cst (.int 0)), (.cst (.int 0)), (.cst (.int 0)), (.cst (.int 0)), (.cst (.int 0)), (.cst (.int 1)), (.cst (.int 1)), (.cst (.int 2)), (.cst (.int 7))])]),
  .ife (.cmp .eq (.var 6) (.cst (.int 0))) [
    .ex (.mth (.var 1) (S [97, 112, 112, 101, 110, 100]) [(.tup [(.cst (.str (S [115, 101, 116]))), (.var 3), (.call f_law_next [(.var 0), (.cst (.int 997))])])])] [
    .ife (.cmp .eq (.var 6) (.cst (.int 1))) [
      .ex (.mth (.var 1) (S [97, 112, 112, 101, 110, 100]) [(.call f_law_pick [(.var 0), (.lst [(.tup [(.cst (.str (S [104, 105, 103, 104]))), (.var 3), (.call f_law_next [(.var 0), (.cst (.int 997))])]), (.tup [(.cst (.str (S [111, 112]))), (.call f_law_pick [(.var 0), (.call f_law_signs [])]), (.var 3), (.var 4), (.var 5)])])])])] [
      .ife (.cmp .lt (.var 6) (.cst (.int 8))) [
        .ex (.call f_law_reach [(.var 0), (.var 1), (.var 2)])] [
        .ife (.cmp .lt (.var 6) (.cst (.int 10))) [
          .ex (.mth (.var 1) (S [97, 112, 112, 101, 110, 100]) [(.tup [(.cst (.str (S [115, 101, 116]))), (.var 4), (.bin .add (.cst (.int 1)) (.call f_law_next [(.var 0), (.cst (.int 900))]))])]),
          .ex (.mth (.var 1) (S [97, 112, 112, 101, 110, 100]) [(.tup [(.cst (.str (S [111, 112]))), (.cst (.str (S [43]))), (.var 3), (.var 3), (.var 4)])]),
          .ex (.mth (.var 1) (S [97, 112, 112, 101, 110, 100]) [(.tup [(.cst (.str (S [115, 101, 110, 100]))), (.var 7), (.var 3)])])] [
          .ife (.cmp .lt (.var 6) (.cst (.int 14))) [
            .ex (.mth (.var 1) (S [97, 112, 112, 101, 110, 100]) [(.ix (.lst [(.tup [(.cst (.str (S [97, 115, 107]))), (.var 3), (.var 7)]), (.tup [(.cst (.str (S [116, 97, 107, 101]))), (.var 3), (.var 7)]), (.tup [(.cst (.str (S [116, 105, 109, 101]))), (.var 3)]), (.tup [(.cst (.str (S [114, 101, 115, 116])))])]) (.bin .sub (.var 6) (.cst (.int 10))))])] [
            .ife (.cmp .eq (.var 6) (.cst (.int 14))) [
              .set (.nm 8) (.bi .len [(.var 1)]),
              .ex (.mth (.var 1) (S [97, 112, 112, 101, 110, 100]) [(.tup [(.cst (.str (S [114, 101, 115, 116])))])]),
              .ex (.call f_law_reach [(.var 0), (.var 1), (.var 2)]),
              .set (.sub (.var 1) (.var 8)) (.tup [(.cst (.str (S [117, 110, 108, 101, 115, 115]))), (.var 3), (.bi .len [(.var 1)])])] [
              .ife (.cmp .eq (.var 6) (.cst (.int 15))) [
                .ex (.mth (.var 1) (S [97, 112, 112, 101, 110, 100]) [(.tup [(.cst (.str (S [115, 101, 116]))), (.cst (.int 5)), (.bin .add (.cst (.int 1)) (.call f_law_next [(.var 0), (.cst (.int 4))]))])]),
                .ex (.mth (.var 1) (S [97, 112, 112, 101, 110, 100]) [(.tup [(.cst (.str (S [115, 101, 116]))), (.cst (.int 6)), (.cst (.int 1))])]),
                .set (.nm 8) (.bi .len [(.var 1)]),
                .ex (.mth (.var 1) (S [97, 112, 112, 101, 110, 100]) [(.tup [(.cst (.str (S [114, 101, 115, 116])))])]),
                .ex (.call f_law_reach [(.var 0), (.var 1), (.var 2)]),
                .ex (.mth (.var 1) (S [97, 112, 112, 101, 110, 100]) [(.tup [(.cst (.str (S [111, 112]))), (.cst (.str (S [45]))), (.cst (.int 5)), (.cst (.int 5)), (.cst (.int 6))])]),
                .ex (.mth (.var 1) (S [97, 112, 112, 101, 110, 100]) [(.tup [(.cst (.str (S [103, 111]))), (.var 8)])]),
                .set (.sub (.var 1) (.var 8)) (.tup [(.cst (.str (S [117, 110, 108, 101, 115, 115]))), (.cst (.int 5)), (.bi .len [(.var 1)])])] [
                .ife (.cmp .eq (.var 6) (.cst (.int 16))) [
                  .for (.nm 9) .range [(.bin .add (.cst (.int 6)) (.call f_law_next [(.var 0), (.cst (.int 14))]))] l_law_piece_1] [
                  .ife (.cmp .eq (.var 6) (.cst (.int 17))) [
                    .set (.nm 8) (.bi .len [(.var 1)]),
                    .ex (.mth (.var 1) (S [97, 112, 112, 101, 110, 100]) [(.tup [(.cst (.str (S [99, 97, 108, 108]))), (.cst (.int 7)), (.bin .add (.var 8) (.cst (.int 2)))])]),
                    .ex (.mth (.var 1) (S [97, 112, 112, 101, 110, 100]) [(.tup [(.cst (.str (S [103, 111]))), (.bin .add (.var 8) (.cst (.int 4)))])]),
                    .ex (.mth (.var 1) (S [97, 112, 112, 101, 110, 100]) [(.tup [(.cst (.str (S [115, 101, 110, 100]))), (.var 7), (.var 4)])]),
                    .ex (.mth (.var 1) (S [97, 112, 112, 101, 110, 100]) [(.tup [(.cst (.str (S [98, 97, 99, 107]))), (.cst (.int 7))])])] [
                    .ex (.mth (.var 1) (S [97, 112, 112, 101, 110, 100]) [(.tup [(.call f_law_pick [(.var 0), (.lst [(.cst (.str (S [116, 97, 107, 101]))), (.cst (.str (S [116, 97, 107, 101]))), (.cst (.str (S [97, 115, 107])))])]), (.var 3), (.var 7)])]),
                    .ex (.mth (.var 1) (S [97, 112, 112, 101, 110, 100]) [(.tup [(.cst (.str (S [111, 112]))), (.cst (.str (S [43]))), (.var 4), (.var 4), (.var 3)])]),
                    .ex (.mth (.var 1) (S [97, 112, 112, 101, 110, 100]) [(.tup [(.cst (.str (S [115, 101, 110, 100]))), (.call f_law_pick [(.var 0), (.lst [(.cst (.int 0)), (.cst (.int 0)), (.cst (.int 1))])]), (.var 4)])])]]]]]]]]]]
def l_law_guest_1 : List Sm := [
  .ex (.call f_law_piece [(.var 0), (.var 2), (.var 1)])]
def e_law_guest_1 : E := (.ite (.and [(.cmp .isin (.ix (.var 6) (.cst (.int 0))) (.tup [(.cst (.str (S [108, 111, 97, 100]))), (.cst (.str (S [115, 116, 111, 114, 101])))])), (.cmp .lt (.ix (.var 6) (.cst (.int 3))) (.cst (.int 0)))]) (.bin .add (.sl (.var 6) none (some (.cst (.int 3)))) (.tup [(.bin .sub (.bin .sub (.var 5) (.cst (.int 1))) (.ix (.var 6) (.cst (.int 3))))])) (.var 6))
def e_law_guest_2 : E := (.call f_law_word [(.var 0)])
def b_law_guest : List Sm := [
  .set (.nm 1) (.call f_law_pick [(.var 0), (.lst [(.cst (.int 0)), (.cst (.int 3)), (.cst (.int 17)), (.cst (.int 40)), (.cst (.int 70))])]),
  .set (.nm 2) (.lst []),
  .for (.nm 3) .range [(.bin .add (.cst (.int 4)) (.call f_law_next [(.var 0), (.cst (.int 9))]))] l_law_guest_1,
  .set (.nm 4) (.call f_law_next [(.var 0), (.cst (.int 6))]),
  .ife (.cmp .eq (.var 4) (.cst (.int 0))) [
    .ex (.mth (.var 2) (S [97, 112, 112, 101, 110, 100]) [(.tup [(.cst (.str (S [101, 110, 100]))), (.call f_law_pick [(.var 0), (.lst [(.cst (.str (S [100, 111, 110, 101]))), (.cst (.str (S [98, 111, 117, 110, 100])))])])])])] [
    .ife (.cmp .lt (.var 4) (.cst (.int 4))) [
      .ex (.mth (.var 2) (S [97, 112, 112, 101, 110, 100]) [(.tup [(.cst (.str (S [114, 101, 115, 116])))])])] [],
    .ex (.mth (.var 2) (S [97, 112, 112, 101, 110, 100]) [(.tup [(.cst (.str (S [103, 111]))), (.cst (.int 0))])])],
  .set (.nm 5) (.bin .mul (.bin .fdiv (.bin .add (.bi .len [(.var 2)]) (.cst (.int 15))) (.cst (.int 16))) (.cst (.int 16))),
  .set (.nm 2) (.lc e_law_guest_1 [6] (.nm 6) .plain [(.var 2)] []),
  .ret (some (.tup [(.bi .tuple [(.var 2)]), (.var 1), (.bi .tuple [(.lc e_law_guest_2 [3] (.nm 3) .range [(.var 1)] [])])]))]
def e_law_frames_1 : E := (.var 8)
def t_law_frames_1 : List E := [(.cmp .eq (.bin .mod (.bi .int [(.bin .mod (.var 8) (.var 1))]) (.var 2)) (.var 5))]
def e_law_frames_2 : E := (.bin .add (.var 4) (.var 9))
def l_law_frames_1 : List Sm := [
  .set (.nm 6) (.ix (.ix (.ix (.var 0) (.cst (.int 5))) (.var 5)) (.cst (.int 1))),
  .ife (.cmp .eq (.ix (.ix (.var 0) (.cst (.int 2))) (.cst (.int 2))) (.cst (.str (S [99, 111, 108, 111, 117, 114, 101, 100])))) [
    .set (.nm 7) (.lc e_law_frames_1 [8] (.nm 8) .range [(.bin .mul (.var 1) (.bin .add (.var 6) (.cst (.int 1))))] t_law_frames_1),
    .ex (.mth (.var 3) (S [97, 112, 112, 101, 110, 100]) [(.bi .tuple [(.sl (.var 7) none (some (.var 6)))])])] [
    .ex (.mth (.var 3) (S [97, 112, 112, 101, 110, 100]) [(.bi .tuple [(.lc e_law_frames_2 [9] (.nm 9) .range [(.var 6)] [])])]),
    .augN 4 .add (.var 6)]]
def b_law_frames : List Sm := [
  .set (.tp [(.nm 1), (.nm 2)]) (.tup [(.bin .fdiv (.ix (.ix (.var 0) (.cst (.int 2))) (.cst (.int 0))) (.cst (.int 4))), (.bi .len [(.ix (.var 0) (.cst (.int 5)))])]),
  .set (.tp [(.nm 3), (.nm 4)]) (.tup [(.lst []), (.cst (.int 0))]),
  .for (.nm 5) .range [(.var 2)] l_law_frames_1,
  .ret (some (.bi .tuple [(.var 3)]))]
def b_law_worst : List Sm := [
  .ret (some (.bin .add (.bi .max [(.ix (.var 0) (.cst (.int 3))), (.bin .add (.cst (.int 1)) (.bin .mul (.cst (.int 2)) (.bin .add (.ix (.var 0) (.cst (.int 2))) (.bi .max [(.ix (.var 0) (.cst (.int 0))), (.ix (.var 0) (.cst (.int 1)))]))))]) (.ix (.var 0) (.cst (.int 3)))))]
def e_law_plan_1 : E := (.bin .add (.call f_law_pick [(.var 0), (.lst [(.cst (.str (S [103]))), (.cst (.str (S [104]))), (.cst (.str (S [107, 95])))])]) (.bi .str [(.var 10)]))
def e_law_plan_2 : E := (.tup [(.var 18), (.bin .add (.cst (.int 2)) (.call f_law_next [(.var 0), (.cst (.int 3))]))])
def l_law_plan_1 : List Sm := [
  .set (.nm 11) (.call f_law_next [(.var 0), (.var 2)]),
  .set (.nm 12) (.bin .mod (.bi .int [(.bin .add (.bin .add (.var 11) (.cst (.int 1))) (.call f_law_next [(.var 0), (.bin .sub (.var 2) (.cst (.int 1)))]))]) (.var 2)),
  .ex (.mth (.var 9) (S [97, 112, 112, 101, 110, 100]) [(.tup [(.ix (.var 3) (.var 11)), (.ix (.var 3) (.var 12)), (.call f_law_pick [(.var 0), (.lst [(.cst (.int 1)), (.cst (.int 2)), (.cst (.int 3)), (.cst (.int 64))])])])])]
def e_law_plan_3 : E := (.call f_law_pick [(.var 0), (.var 3)])
def e_law_plan_4 : E := (.tup [(.var 18), (.bin .add (.call f_law_worst [(.var 7)]) (.call f_law_next [(.var 0), (.cst (.int 700))]))])
def e_law_plan_5 : E := (.bi .max [(.var 19)])
def b_law_plan : List Sm := [
  .set (.nm 3) (.lc e_law_plan_1 [10] (.nm 10) .range [(.var 2)] []),
  .set (.nm 4) (.ite (.var 1) (.call f_law_pick [(.var 0), (.lst [(.cst (.str (S [102, 108, 117, 115, 104, 101, 100]))), (.cst (.str (S [99, 111, 108, 111, 117, 114, 101, 100])))])]) (.call f_law_pick [(.var 0), (.lst [(.cst (.str (S [115, 104, 97, 114, 101, 100]))), (.cst (.str (S [102, 108, 117, 115, 104, 101, 100]))), (.cst (.str (S [99, 111, 108, 111, 117, 114, 101, 100])))])])),
  .set (.nm 5) (.tup [(.bin .mul (.cst (.int 4)) (.call f_law_pick [(.var 0), (.lst [(.var 2), (.bin .add (.var 2) (.cst (.int 1))), (.bin .mul (.cst (.int 2)) (.var 2)), (.cst (.int 16))])])), (.bin .add (.cst (.int 1)) (.call f_law_next [(.var 0), (.cst (.int 4))])), (.var 4)]),
  .set (.nm 6) (.tup [(.call f_law_pick [(.var 0), (.lst [(.cst (.int 1)), (.cst (.int 2)), (.cst (.int 3)), (.cst (.int 16))])]), (.ite (.var 1) (.cst (.str (S [102, 108, 117, 115, 104, 101, 100]))) (.call f_law_pick [(.var 0), (.lst [(.cst (.str (S [115, 104, 97, 114, 101, 100]))), (.cst (.str (S [102, 108, 117, 115, 104, 101, 100])))])]))]),
  .set (.nm 7) (.tup [(.bin .add (.cst (.int 1)) (.call f_law_next [(.var 0), (.cst (.int 4))])), (.bin .add (.cst (.int 5)) (.call f_law_next [(.var 0), (.cst (.int 20))])), (.bin .add (.cst (.int 1)) (.call f_law_next [(.var 0), (.cst (.int 9))])), (.bin .add (.cst (.int 1)) (.call f_law_next [(.var 0), (.cst (.int 40))]))]),
  .set (.nm 8) (.bi .tuple [(.lc e_law_plan_2 [18] (.nm 18) .plain [(.var 3)] [])]),
  .set (.nm 9) (.lst []),
  .for (.nm 10) .range [(.ite (.cmp .gt (.var 2) (.cst (.int 1))) (.call f_law_pick [(.var 0), (.lst [(.cst (.int 0)), (.cst (.int 2)), (.cst (.int 4)), (.cst (.int 6)), (.cst (.int 8))])]) (.cst (.int 0)))] l_law_plan_1,
  .set (.nm 13) (.call f_law_next [(.var 0), (.var 2)]),
  .set (.nm 14) (.bin .add (.bin .add (.sl (.var 3) (some (.var 13)) none) (.sl (.var 3) none (some (.var 13)))) (.lc e_law_plan_3 [10] (.nm 10) .range [(.call f_law_next [(.var 0), (.cst (.int 3))])] [])),
  .set (.nm 15) (.bi .tuple [(.lc e_law_plan_4 [18] (.nm 18) .plain [(.var 14)] [])]),
  .set (.nm 16) (.tup [(.cst (.str (S [112]))), (.cst (.int 0)), (.var 5), (.var 6), (.var 7), (.var 8), (.bi .tuple [(.var 9)]), (.var 15)]),
  .set (.nm 17) (.bi .max [(.lc e_law_plan_5 [19] (.nm 19) .plain [(.call f_law_frames [(.var 16)])] [])]),
  .ret (some (.bin .add (.bin .add (.sl (.var 16) none (some (.cst (.int 1)))) (.tup [(.bin .add (.bin .add (.var 17) (.cst (.int 1))) (.call f_law_next [(.var 0), (.cst (.int 3))]))])) (.sl (.var 16) (some (.cst (.int 2))) none)))]
def e_law_hears_1 : E := (.ix (.var 6) (.cst (.int 0)))
def l_law_hears_2 : List Sm := [
  .ife (.and [(.cmp .isin (.ix (.var 5) (.cst (.int 1))) (.var 3)), (.cmp .notin (.ix (.var 5) (.cst (.int 0))) (.var 3))]) [
    .ex (.mth (.var 3) (S [97, 112, 112, 101, 110, 100]) [(.ix (.var 5) (.cst (.int 0)))])] []]
def l_law_hears_1 : List Sm := [
  .for (.nm 5) .plain [(.ix (.var 0) (.cst (.int 6)))] l_law_hears_2]
def e_law_hears_2 : E := (.var 7)
def t_law_hears_2 : List E := [(.cmp .isin (.ix (.var 2) (.var 7)) (.var 3))]
def b_law_hears : List Sm := [
  .set (.nm 2) (.lc e_law_hears_1 [6] (.nm 6) .plain [(.ix (.var 0) (.cst (.int 5)))] []),
  .set (.nm 3) (.lst [(.ix (.var 2) (.var 1))]),
  .for (.nm 4) .plain [(.var 2)] l_law_hears_1,
  .ret (some (.bi .tuple [(.lc e_law_hears_2 [7] (.nm 7) .range [(.bi .len [(.var 2)])] t_law_hears_2)]))]
def e_law_system_1 : E := (.lst [])
def e_law_system_2 : E := (.lst [])
def e_law_system_3 : E := (.ix (.var 8) (.cst (.int 0)))
def e_law_system_4 : E := (.var 6)
def t_law_system_4 : List E := [(.cmp .eq (.ix (.ix (.ix (.var 0) (.cst (.int 6))) (.var 6)) (.cst (.int 0))) (.ix (.ix (.var 2) (.cst (.str (S [110, 97, 109, 101, 115])))) (.var 4)))]
def e_law_system_5 : E := (.var 6)
def t_law_system_5 : List E := [(.cmp .eq (.ix (.ix (.ix (.var 0) (.cst (.int 6))) (.var 6)) (.cst (.int 1))) (.ix (.ix (.var 2) (.cst (.str (S [110, 97, 109, 101, 115])))) (.var 4)))]
def l_law_system_1 : List Sm := [
  .set (.nm 5) (.call f_law_machine [(.ix (.var 1) (.var 4)), (.tup [])]),
  .set (.sub (.var 5) (.cst (.str (S [103])))) (.var 4),
  .set (.sub (.var 5) (.cst (.str (S [102, 114, 97, 109, 101, 115])))) (.ix (.var 3) (.var 4)),
  .set (.sub (.var 5) (.cst (.str (S [105, 110])))) (.lst []),
  .set (.sub (.var 5) (.cst (.str (S [99, 97, 109, 101])))) (.cst (.bl false)),
  .set (.sub (.var 5) (.cst (.str (S [102, 114, 111, 109])))) (.lc e_law_system_4 [6] (.nm 6) .range [(.bi .len [(.ix (.var 0) (.cst (.int 6)))])] t_law_system_4),
  .set (.sub (.var 5) (.cst (.str (S [116, 111])))) (.lc e_law_system_5 [6] (.nm 6) .range [(.bi .len [(.ix (.var 0) (.cst (.int 6)))])] t_law_system_5),
  .ex (.mth (.ix (.var 2) (.cst (.str (S [111, 119, 110])))) (S [97, 112, 112, 101, 110, 100]) [(.var 5)])]
def b_law_system : List Sm := [
  .set (.nm 2) (.dct [.inr (S [112, 108, 97, 110]), .inr (S [99, 108, 111, 99, 107]), .inr (S [115, 108, 111, 116]), .inr (S [115, 101, 116, 115]), .inr (S [112, 97, 105, 114, 115]), .inr (S [111, 119, 110]), .inr (S [119, 97, 105, 116, 115]), .inr (S [110, 97, 109, 101, 115])] [(.var 0), (.cst (.int 0)), (.cst (.int 0)), (.lc e_law_system_1 [6] (.nm 6) .range [(.ix (.ix (.var 0) (.cst (.int 2))) (.cst (.int 0)))] []), (.lst []), (.lst []), (.lc e_law_system_2 [7] (.nm 7) .plain [(.ix (.var 0) (.cst (.int 6)))] []), (.lc e_law_system_3 [8] (.nm 8) .plain [(.ix (.var 0) (.cst (.int 5)))] [])]),
  .set (.nm 3) (.call f_law_frames [(.var 0)]),
  .for (.nm 4) .range [(.bi .len [(.var 1)])] l_law_system_1,
  .ret (some (.var 2))]
def e_law_bring_1 : E := (.var 8)
def t_law_bring_1 : List E := [(.cmp .ne (.ix (.var 8) (.cst (.int 0))) (.tup [(.ix (.var 1) (.cst (.str (S [103])))), (.var 4)]))]
def e_law_bring_2 : E := (.var 9)
def t_law_bring_2 : List E := [(.cmp .ne (.var 9) (.var 7))]
def l_law_bring_1 : List Sm := [
  .set (.sub (.var 6) (.bin .mod (.bi .int [(.var 7)]) (.var 5))) (.lc e_law_bring_2 [9] (.nm 9) .plain [(.ix (.var 6) (.bin .mod (.bi .int [(.var 7)]) (.var 5)))] t_law_bring_2)]
def b_law_bring : List Sm := [
  .ife (.cmp .lt (.bi .len [(.ix (.var 1) (.cst (.str (S [105, 110]))))]) (.bi .len [(.ix (.var 1) (.cst (.str (S [102, 114, 97, 109, 101, 115]))))])) [
    .set (.nm 3) (.ix (.ix (.var 1) (.cst (.str (S [102, 114, 97, 109, 101, 115])))) (.bi .len [(.ix (.var 1) (.cst (.str (S [105, 110]))))]))] [
    .set (.tp [(.nm 4), (.nm 3)]) (.mth (.ix (.var 1) (.cst (.str (S [105, 110])))) (S [112, 111, 112]) [(.cst (.int 0))]),
    .set (.sub (.var 0) (.cst (.str (S [112, 97, 105, 114, 115])))) (.lc e_law_bring_1 [8] (.nm 8) .plain [(.ix (.var 0) (.cst (.str (S [112, 97, 105, 114, 115]))))] t_law_bring_1)],
  .ex (.mth (.ix (.var 1) (.cst (.str (S [105, 110])))) (S [97, 112, 112, 101, 110, 100]) [(.tup [(.var 2), (.var 3)])]),
  .set (.tp [(.nm 5), (.nm 6)]) (.tup [(.ix (.ix (.ix (.var 0) (.cst (.str (S [112, 108, 97, 110])))) (.cst (.int 2))) (.cst (.int 0))), (.ix (.var 0) (.cst (.str (S [115, 101, 116, 115]))))]),
  .for (.nm 7) .range [(.bin .mul (.cst (.int 4)) (.var 3)), (.bin .add (.bin .mul (.cst (.int 4)) (.var 3)) (.cst (.int 4)))] l_law_bring_1]
def e_law_meet_1 : E := (.ix (.var 10) (.cst (.int 1)))
def t_law_meet_1 : List E := [(.cmp .eq (.ix (.var 10) (.cst (.int 0))) (.bin .fdiv (.var 2) (.cst (.int 16))))]
def e_law_meet_2 : E := (.var 10)
def t_law_meet_2 : List E := [(.cmp .eq (.ix (.var 10) (.cst (.int 0))) (.var 4))]
def e_law_meet_3 : E := (.var 11)
def t_law_meet_3 : List E := [(.cmp .ne (.var 11) (.var 7))]
def b_law_meet : List Sm := [
  .set (.tp [(.nm 3), (.nm 4)]) (.tup [(.ix (.var 0) (.cst (.str (S [112, 108, 97, 110])))), (.tup [(.ix (.var 1) (.cst (.str (S [103])))), (.bin .fdiv (.var 2) (.cst (.int 16)))])]),
  .set (.nm 5) (.lc e_law_meet_1 [10] (.nm 10) .plain [(.ix (.var 1) (.cst (.str (S [105, 110]))))] t_law_meet_1),
  .ife (.cmp .eq (.var 5) (.lst [])) [
    .ex (.call f_law_bring [(.var 0), (.var 1), (.bin .fdiv (.var 2) (.cst (.int 16)))]),
    .set (.sub (.var 1) (.cst (.str (S [99, 97, 109, 101])))) (.cst (.bl true)),
    .ret (some (.ix (.ix (.var 3) (.cst (.int 4))) (.cst (.int 3))))] [],
  .set (.nm 6) (.cst (.int 0)),
  .ife (.cmp .eq (.lc e_law_meet_2 [10] (.nm 10) .plain [(.ix (.var 0) (.cst (.str (S [112, 97, 105, 114, 115]))))] t_law_meet_2) (.lst [])) [
    .set (.nm 6) (.ix (.ix (.var 3) (.cst (.int 4))) (.cst (.int 2))),
    .set (.sub (.var 0) (.cst (.str (S [112, 97, 105, 114, 115])))) (.sl (.bin .add (.ix (.var 0) (.cst (.str (S [112, 97, 105, 114, 115])))) (.lst [(.tup [(.var 4), (.ix (.var 5) (.cst (.int 0)))])])) (some (.neg (.ix (.ix (.var 3) (.cst (.int 3))) (.cst (.int 0))))) none)] [],
  .set (.nm 7) (.bin .fdiv (.bin .add (.bin .mul (.cst (.int 16)) (.ix (.var 5) (.cst (.int 0)))) (.bin .mod (.bi .int [(.var 2)]) (.cst (.int 16)))) (.cst (.int 4))),
  .set (.tp [(.nm 8), (.nm 9)]) (.tup [(.bin .mod (.bi .int [(.var 7)]) (.ix (.ix (.var 3) (.cst (.int 2))) (.cst (.int 0)))), (.ix (.var 0) (.cst (.str (S [115, 101, 116, 115]))))]),
  .augN 6 .add (.ite (.cmp .isin (.var 7) (.ix (.var 9) (.var 8))) (.ix (.ix (.var 3) (.cst (.int 4))) (.cst (.int 0))) (.ix (.ix (.var 3) (.cst (.int 4))) (.cst (.int 1)))),
  .set (.sub (.var 9) (.var 8)) (.sl (.bin .add (.lst [(.var 7)]) (.lc e_law_meet_3 [11] (.nm 11) .plain [(.ix (.var 9) (.var 8))] t_law_meet_3)) none (some (.ix (.ix (.var 3) (.cst (.int 2))) (.cst (.int 1))))),
  .ret (some (.var 6))]
def b_law_wait : List Sm := [
  .set (.nm 3) (.ix (.var 0) (.cst (.str (S [119, 97, 105, 116, 115])))),
  .set (.sub (.var 3) (.var 1)) (.sl (.bin .add (.ix (.var 3) (.var 1)) (.lst [(.var 2)])) (some (.neg (.ix (.ix (.ix (.ix (.var 0) (.cst (.str (S [112, 108, 97, 110])))) (.cst (.int 6))) (.var 1)) (.cst (.int 2))))) none)]
def b_law_answer : List Sm := [
  .ife (.cmp .eq (.ix (.var 2) (.cst (.int 0))) (.cst (.str (S [116, 105, 109, 101])))) [
    .ret (some (.bin .mod (.bi .int [(.var 3)]) (.cst (.int 4294967296))))] [],
  .set (.nm 4) (.ix (.var 0) (.cst (.str (S [119, 97, 105, 116, 115])))),
  .ife (.cmp .ge (.ix (.var 2) (.cst (.int 2))) (.bi .len [(.ix (.var 1) (.cst (.str (S [116, 111]))))])) [
    .ret (some (.cst (.int 0)))] [],
  .set (.nm 5) (.ix (.ix (.var 1) (.cst (.str (S [116, 111])))) (.ix (.var 2) (.cst (.int 2)))),
  .ife (.cmp .eq (.ix (.var 2) (.cst (.int 0))) (.cst (.str (S [97, 115, 107])))) [
    .ret (some (.bi .len [(.ix (.var 4) (.var 5))]))] [],
  .ret (some (.ite (.cmp .gt (.bi .len [(.ix (.var 4) (.var 5))]) (.cst (.int 0))) (.mth (.ix (.var 4) (.var 5)) (S [112, 111, 112]) [(.cst (.int 0))]) (.cst (.int 0))))]
def b_law_step : List Sm := [
  .set (.tp [(.nm 3), (.sub (.var 1) (.cst (.str (S [99, 97, 109, 101]))))]) (.tup [(.ix (.var 1) (.cst (.str (S [97, 116])))), (.cst (.bl false))]),
  .ife (.cmp .ge (.var 3) (.bi .len [(.ix (.var 1) (.cst (.str (S [99, 111, 100, 101]))))])) [
    .set (.sub (.var 1) (.cst (.str (S [119, 111, 114, 100])))) (.cst (.str (S [102, 97, 117, 108, 116]))),
    .ret (some (.cst (.int 1)))] [],
  .set (.nm 4) (.ix (.ix (.var 1) (.cst (.str (S [99, 111, 100, 101])))) (.var 3)),
  .set (.nm 5) (.call f_law_meet [(.var 0), (.var 1), (.var 3)]),
  .ife (.and [(.nt (.ix (.var 1) (.cst (.str (S [99, 97, 109, 101]))))), (.cmp .isin (.ix (.var 4) (.cst (.int 0))) (.tup [(.cst (.str (S [108, 111, 97, 100]))), (.cst (.str (S [115, 116, 111, 114, 101])))]))]) [
    .set (.nm 6) (.bin .mod (.bi .int [(.bin .add (.ix (.ix (.var 1) (.cst (.str (S [114, 101, 103, 115])))) (.ix (.var 4) (.cst (.int 2)))) (.ix (.var 4) (.cst (.int 3))))]) (.cst (.int 4294967296))),
    .ife (.and [(.cmp .lt (.var 6) (.bi .len [(.ix (.var 1) (.cst (.str (S [109, 101, 109, 111, 114, 121]))))])), (.or [(.cmp .eq (.ix (.var 4) (.cst (.int 0))) (.cst (.str (S [108, 111, 97, 100])))), (.cmp .ge (.var 6) (.ix (.var 1) (.cst (.str (S [98, 97, 115, 101])))))])]) [
      .augN 5 .add (.call f_law_meet [(.var 0), (.var 1), (.var 6)])] []] [],
  .ife (.ix (.var 1) (.cst (.str (S [99, 97, 109, 101])))) [
    .ret (some (.var 5))] [],
  .ife (.cmp .isin (.ix (.var 4) (.cst (.int 0))) (.tup [(.cst (.str (S [97, 115, 107]))), (.cst (.str (S [116, 97, 107, 101]))), (.cst (.str (S [116, 105, 109, 101])))])) [
    .set (.tp [(.sub (.var 1) (.cst (.str (S [97, 110, 115, 119, 101, 114, 115])))), (.sub (.var 1) (.cst (.str (S [103, 105, 118, 101, 110]))))]) (.tup [(.tup [(.call f_law_answer [(.var 0), (.var 1), (.var 4), (.var 2)])]), (.cst (.int 0))])] [
    .ife (.and [(.cmp .eq (.ix (.var 4) (.cst (.int 0))) (.cst (.str (S [115, 101, 110, 100])))), (.cmp .lt (.ix (.var 4) (.cst (.int 1))) (.bi .len [(.ix (.var 1) (.cst (.str (S [102, 114, 111, 109]))))]))]) [
      .ex (.call f_law_wait [(.var 0), (.ix (.ix (.var 1) (.cst (.str (S [102, 114, 111, 109])))) (.ix (.var 4) (.cst (.int 1)))), (.ix (.ix (.var 1) (.cst (.str (S [114, 101, 103, 115])))) (.ix (.var 4) (.cst (.int 2))))])] []],
  .ex (.call f_law_instruction [(.var 1), (.var 4)]),
  .ife (.cmp .ne (.ix (.var 1) (.cst (.str (S [119, 111, 114, 100])))) (.cst (.str (S [])))) [
    .set (.sub (.var 1) (.cst (.str (S [97, 116])))) (.var 3)] [],
  .ret (some (.bin .add (.var 5) (.cst (.int 1))))]
def e_law_slot_1 : E := (.lst [])
def l_law_slot_1 : List Sm := [
  .set (.nm 8) (.and [(.cmp .ne (.ix (.var 4) (.cst (.str (S [100, 101, 101, 100, 115])))) (.lst [])), (.cmp .eq (.ix (.ix (.var 4) (.cst (.str (S [100, 101, 101, 100, 115])))) (.neg (.cst (.int 1)))) (.tup [(.cst (.str (S [114, 101, 115, 116])))]))]),
  .ife (.or [(.cmp .ne (.ix (.var 4) (.cst (.str (S [119, 111, 114, 100])))) (.cst (.str (S [])))), (.var 8), (.cmp .gt (.call f_law_worst [(.ix (.var 1) (.cst (.int 4)))]) (.bin .sub (.var 3) (.var 5)))]) [
    .brk] [],
  .augN 5 .add (.call f_law_step [(.var 0), (.var 4), (.bin .add (.var 6) (.var 5))])]
def b_law_slot : List Sm := [
  .set (.nm 1) (.ix (.var 0) (.cst (.str (S [112, 108, 97, 110])))),
  .set (.tp [(.nm 2), (.nm 3)]) (.ix (.ix (.var 1) (.cst (.int 7))) (.bin .mod (.bi .int [(.ix (.var 0) (.cst (.str (S [115, 108, 111, 116]))))]) (.bi .len [(.ix (.var 1) (.cst (.int 7)))]))),
  .set (.nm 4) (.ix (.ix (.var 0) (.cst (.str (S [111, 119, 110])))) (.mth (.ix (.var 0) (.cst (.str (S [110, 97, 109, 101, 115])))) (S [105, 110, 100, 101, 120]) [(.var 2)])),
  .ife (.cmp .eq (.ix (.ix (.var 1) (.cst (.int 2))) (.cst (.int 2))) (.cst (.str (S [102, 108, 117, 115, 104, 101, 100])))) [
    .set (.sub (.var 0) (.cst (.str (S [115, 101, 116, 115])))) (.lc e_law_slot_1 [9] (.nm 9) .range [(.ix (.ix (.var 1) (.cst (.int 2))) (.cst (.int 0)))] [])] [],
  .ife (.cmp .eq (.ix (.ix (.var 1) (.cst (.int 3))) (.cst (.int 1))) (.cst (.str (S [102, 108, 117, 115, 104, 101, 100])))) [
    .set (.sub (.var 0) (.cst (.str (S [112, 97, 105, 114, 115])))) (.lst [])] [],
  .set (.tp [(.nm 5), (.sub (.var 4) (.cst (.str (S [100, 101, 101, 100, 115])))), (.nm 6)]) (.tup [(.cst (.int 0)), (.lst []), (.ix (.var 0) (.cst (.str (S [99, 108, 111, 99, 107]))))]),
  .for (.nm 7) .range [(.var 3)] l_law_slot_1,
  .augS (.var 0) (.cst (.str (S [99, 108, 111, 99, 107]))) .add (.var 3),
  .augS (.var 0) (.cst (.str (S [115, 108, 111, 116]))) .add (.cst (.int 1)),
  .ret (some (.tup [(.ix (.var 4) (.cst (.str (S [103])))), (.var 6), (.var 5), (.bi .tuple [(.ix (.var 4) (.cst (.str (S [100, 101, 101, 100, 115]))))]), (.ix (.var 4) (.cst (.str (S [97, 116])))), (.bi .tuple [(.ix (.var 4) (.cst (.str (S [114, 101, 103, 115]))))]), (.ix (.var 4) (.cst (.str (S [119, 111, 114, 100]))))]))]
def e_law_run_plan_1 : E := (.call f_law_slot [(.var 3)])
def b_law_run_plan : List Sm := [
  .set (.nm 3) (.call f_law_system [(.var 0), (.var 1)]),
  .ret (some (.bi .tuple [(.lc e_law_run_plan_1 [4] (.nm 4) .range [(.var 2)] [])]))]
def e_law_same_1 : E := (.var 2)
def t_law_same_1 : List E := [(.nt (.call f_law_same [(.ix (.var 0) (.var 2)), (.ix (.var 1) (.var 2))]))]
def b_law_same : List Sm := [
  .ife (.isi (.var 1) .tuple) [
    .ife (.or [(.nt (.isi (.var 0) .tuple)), (.cmp .ne (.bi .len [(.var 0)]) (.bi .len [(.var 1)]))]) [
      .ret (some (.cst (.bl false)))] [],
    .ret (some (.cmp .eq (.lc e_law_same_1 [2] (.nm 2) .range [(.bi .len [(.var 1)])] t_law_same_1) (.lst [])))] [],
  .ife (.isi (.var 1) .str) [
    .ret (some (.and [(.isi (.var 0) .str), (.cmp .eq (.var 0) (.var 1))]))] [],
  .ret (some (.and [(.isi (.var 0) .int), (.nt (.isi (.var 0) .bool)), (.cmp .eq (.var 0) (.var 1))]))]
def e_law_heard_1 : E := (.ix (.var 10) (.cst (.int 0)))
def e_law_heard_2 : E := (.lst [(.var 6)])
def e_law_heard_3 : E := (.ix (.var 11) (.cst (.int 0)))
def t_law_heard_3 : List E := [(.cmp .eq (.ix (.var 11) (.cst (.int 1))) (.ix (.var 2) (.var 6)))]
def l_law_heard_3 : List Sm := [
  .ife (.cmp .notin (.var 9) (.ix (.var 3) (.var 6))) [
    .ex (.mth (.ix (.var 3) (.var 6)) (S [97, 112, 112, 101, 110, 100]) [(.var 9)])] []]
def l_law_heard_2 : List Sm := [
  .ife (.and [(.cmp .isin (.ix (.var 8) (.cst (.int 0))) (.tup [(.cst (.str (S [97, 115, 107]))), (.cst (.str (S [116, 97, 107, 101])))])), (.cmp .lt (.ix (.var 8) (.cst (.int 1))) (.bi .len [(.var 7)]))]) [
    .for (.nm 9) .plain [(.ix (.var 3) (.mth (.var 2) (S [105, 110, 100, 101, 120]) [(.ix (.var 7) (.ix (.var 8) (.cst (.int 1))))]))] l_law_heard_3] []]
def l_law_heard_1 : List Sm := [
  .set (.nm 6) (.ix (.var 5) (.cst (.int 0))),
  .set (.nm 7) (.lc e_law_heard_3 [11] (.nm 11) .plain [(.ix (.var 0) (.cst (.int 6)))] t_law_heard_3),
  .for (.nm 8) .plain [(.ix (.var 5) (.cst (.int 3)))] l_law_heard_2,
  .ex (.mth (.var 4) (S [97, 112, 112, 101, 110, 100]) [(.bi .tuple [(.bi .sorted [(.ix (.var 3) (.var 6))])])])]
def b_law_heard : List Sm := [
  .set (.nm 2) (.lc e_law_heard_1 [10] (.nm 10) .plain [(.ix (.var 0) (.cst (.int 5)))] []),
  .set (.nm 3) (.lc e_law_heard_2 [6] (.nm 6) .range [(.bi .len [(.var 2)])] []),
  .set (.nm 4) (.lst []),
  .for (.nm 5) .plain [(.var 1)] l_law_heard_1,
  .ret (some (.bi .tuple [(.var 4)]))]
def e_law_asks_1 : E := (.call f_law_guest [(.var 0)])
def e_law_asks_3 : E := (.var 7)
def t_law_asks_3 : List E := [(.cmp .notin (.var 7) (.var 6))]
def e_law_asks_2 : E := (.var 8)
def t_law_asks_2 : List E := [(.and [(.cmp .eq (.ix (.ix (.var 3) (.var 8)) (.cst (.int 0))) (.var 5)), (.cmp .ne (.lc e_law_asks_3 [7] (.nm 7) .plain [(.ix (.var 4) (.var 8))] t_law_asks_3) (.lst []))])]
def l_law_asks_1 : List Sm := [
  .set (.nm 6) (.call f_law_hears [(.var 1), (.var 5)]),
  .ife (.nt (.call f_law_same [(.call f_hears [(.var 1), (.var 5)]), (.var 6)])) [
    .ret (some (.cst (.bl false)))] [],
  .ife (.cmp .ne (.lc e_law_asks_2 [8] (.nm 8) .range [(.bi .len [(.var 3)])] t_law_asks_2) (.lst [])) [
    .ret (some (.cst (.bl false)))] []]
def b_law_asks : List Sm := [
  .set (.nm 1) (.call f_law_plan [(.var 0), (.cmp .eq (.call f_law_next [(.var 0), (.cst (.int 2))]) (.cst (.int 0))), (.bin .add (.cst (.int 2)) (.call f_law_next [(.var 0), (.cst (.int 3))]))]),
  .set (.nm 2) (.bi .tuple [(.lc e_law_asks_1 [7] (.nm 7) .plain [(.ix (.var 1) (.cst (.int 5)))] [])]),
  .set (.nm 3) (.call f_law_run_plan [(.var 1), (.var 2), (.call f_law_next [(.var 0), (.cst (.int 21))])]),
  .set (.nm 4) (.call f_law_heard [(.var 1), (.var 3)]),
  .ife (.nt (.call f_law_same [(.call f_heard [(.var 1), (.var 3)]), (.var 4)])) [
    .ret (some (.cst (.bl false)))] [],
  .for (.nm 5) .range [(.bi .len [(.var 2)])] l_law_asks_1,
  .ret (some (.cst (.bl true)))]
def b_law : List Sm := [
  .set (.nm 1) (.dct [.inr (S [100, 114, 97, 119, 115]), .inr (S [97, 116])] [(.call f_law_draws [(.var 0), (.cst (.int 2400))]), (.cst (.int 0))]),
  .ret (some (.and [(.call f_law_asks [(.var 1)]), (.call f_law_asks [(.var 1)])]))]
def fns : List Fn := [⟨1, b_names_of⟩, ⟨2, b_channels_to⟩, ⟨2, b_teller⟩, ⟨2, b_hears⟩, ⟨3, b_heard_in⟩, ⟨2, b_heard⟩, ⟨2, b_law_draws⟩, ⟨2, b_law_next⟩, ⟨2, b_law_pick⟩, ⟨1, b_law_word⟩, ⟨0, b_law_signs⟩, ⟨3, b_law_operate⟩, ⟨1, b_law_number⟩, ⟨1, b_law_code_word⟩, ⟨2, b_law_machine⟩, ⟨2, b_law_met⟩, ⟨2, b_law_told⟩, ⟨2, b_law_instruction⟩, ⟨3, b_law_reach⟩, ⟨3, b_law_piece⟩, ⟨1, b_law_guest⟩, ⟨1, b_law_frames⟩, ⟨1, b_law_worst⟩, ⟨3, b_law_plan⟩, ⟨2, b_law_hears⟩, ⟨2, b_law_system⟩, ⟨3, b_law_bring⟩, ⟨3, b_law_meet⟩, ⟨3, b_law_wait⟩, ⟨4, b_law_answer⟩, ⟨3, b_law_step⟩, ⟨1, b_law_slot⟩, ⟨3, b_law_run_plan⟩, ⟨2, b_law_same⟩, ⟨2, b_law_heard⟩, ⟨1, b_law_asks⟩, ⟨1, b_law⟩]
def globs : List (Str × W) := []
def mths : Mths := []
def fldL : Flds := []
def prg : Prog := ⟨fns, mget mths, fokF fldL, fget globs, 100000⟩
theorem u_names_of {n : Nat} {a0 : W} {h : VH} : prg.call (n + 1) f_names_of [a0] h = (evSs (prg.cfg n) b_names_of (env0 [a0]) h).bind retK := call_run (d := ⟨1, b_names_of⟩) rfl rfl
theorem u_channels_to {n : Nat} {a0 a1 : W} {h : VH} : prg.call (n + 1) f_channels_to [a0, a1] h = (evSs (prg.cfg n) b_channels_to (env0 [a0, a1]) h).bind retK := call_run (d := ⟨2, b_channels_to⟩) rfl rfl
theorem u_teller {n : Nat} {a0 a1 : W} {h : VH} : prg.call (n + 1) f_teller [a0, a1] h = (evSs (prg.cfg n) b_teller (env0 [a0, a1]) h).bind retK := call_run (d := ⟨2, b_teller⟩) rfl rfl
theorem u_hears {n : Nat} {a0 a1 : W} {h : VH} : prg.call (n + 1) f_hears [a0, a1] h = (evSs (prg.cfg n) b_hears (env0 [a0, a1]) h).bind retK := call_run (d := ⟨2, b_hears⟩) rfl rfl
theorem u_heard_in {n : Nat} {a0 a1 a2 : W} {h : VH} : prg.call (n + 1) f_heard_in [a0, a1, a2] h = (evSs (prg.cfg n) b_heard_in (env0 [a0, a1, a2]) h).bind retK := call_run (d := ⟨3, b_heard_in⟩) rfl rfl
theorem u_heard {n : Nat} {a0 a1 : W} {h : VH} : prg.call (n + 1) f_heard [a0, a1] h = (evSs (prg.cfg n) b_heard (env0 [a0, a1]) h).bind retK := call_run (d := ⟨2, b_heard⟩) rfl rfl
theorem u_law_draws {n : Nat} {a0 a1 : W} {h : VH} : prg.call (n + 1) f_law_draws [a0, a1] h = (evSs (prg.cfg n) b_law_draws (env0 [a0, a1]) h).bind retK := call_run (d := ⟨2, b_law_draws⟩) rfl rfl
theorem u_law_next {n : Nat} {a0 a1 : W} {h : VH} : prg.call (n + 1) f_law_next [a0, a1] h = (evSs (prg.cfg n) b_law_next (env0 [a0, a1]) h).bind retK := call_run (d := ⟨2, b_law_next⟩) rfl rfl
theorem u_law_pick {n : Nat} {a0 a1 : W} {h : VH} : prg.call (n + 1) f_law_pick [a0, a1] h = (evSs (prg.cfg n) b_law_pick (env0 [a0, a1]) h).bind retK := call_run (d := ⟨2, b_law_pick⟩) rfl rfl
theorem u_law_word {n : Nat} {a0 : W} {h : VH} : prg.call (n + 1) f_law_word [a0] h = (evSs (prg.cfg n) b_law_word (env0 [a0]) h).bind retK := call_run (d := ⟨1, b_law_word⟩) rfl rfl
theorem u_law_signs {n : Nat} {h : VH} : prg.call (n + 1) f_law_signs [] h = (evSs (prg.cfg n) b_law_signs (env0 []) h).bind retK := call_run (d := ⟨0, b_law_signs⟩) rfl rfl
theorem u_law_operate {n : Nat} {a0 a1 a2 : W} {h : VH} : prg.call (n + 1) f_law_operate [a0, a1, a2] h = (evSs (prg.cfg n) b_law_operate (env0 [a0, a1, a2]) h).bind retK := call_run (d := ⟨3, b_law_operate⟩) rfl rfl
theorem u_law_number {n : Nat} {a0 : W} {h : VH} : prg.call (n + 1) f_law_number [a0] h = (evSs (prg.cfg n) b_law_number (env0 [a0]) h).bind retK := call_run (d := ⟨1, b_law_number⟩) rfl rfl
theorem u_law_code_word {n : Nat} {a0 : W} {h : VH} : prg.call (n + 1) f_law_code_word [a0] h = (evSs (prg.cfg n) b_law_code_word (env0 [a0]) h).bind retK := call_run (d := ⟨1, b_law_code_word⟩) rfl rfl
theorem u_law_machine {n : Nat} {a0 a1 : W} {h : VH} : prg.call (n + 1) f_law_machine [a0, a1] h = (evSs (prg.cfg n) b_law_machine (env0 [a0, a1]) h).bind retK := call_run (d := ⟨2, b_law_machine⟩) rfl rfl
theorem u_law_met {n : Nat} {a0 a1 : W} {h : VH} : prg.call (n + 1) f_law_met [a0, a1] h = (evSs (prg.cfg n) b_law_met (env0 [a0, a1]) h).bind retK := call_run (d := ⟨2, b_law_met⟩) rfl rfl
theorem u_law_told {n : Nat} {a0 a1 : W} {h : VH} : prg.call (n + 1) f_law_told [a0, a1] h = (evSs (prg.cfg n) b_law_told (env0 [a0, a1]) h).bind retK := call_run (d := ⟨2, b_law_told⟩) rfl rfl
theorem u_law_instruction {n : Nat} {a0 a1 : W} {h : VH} : prg.call (n + 1) f_law_instruction [a0, a1] h = (evSs (prg.cfg n) b_law_instruction (env0 [a0, a1]) h).bind retK := call_run (d := ⟨2, b_law_instruction⟩) rfl rfl
theorem u_law_reach {n : Nat} {a0 a1 a2 : W} {h : VH} : prg.call (n + 1) f_law_reach [a0, a1, a2] h = (evSs (prg.cfg n) b_law_reach (env0 [a0, a1, a2]) h).bind retK := call_run (d := ⟨3, b_law_reach⟩) rfl rfl
theorem u_law_piece {n : Nat} {a0 a1 a2 : W} {h : VH} : prg.call (n + 1) f_law_piece [a0, a1, a2] h = (evSs (prg.cfg n) b_law_piece (env0 [a0, a1, a2]) h).bind retK := call_run (d := ⟨3, b_law_piece⟩) rfl rfl
theorem u_law_guest {n : Nat} {a0 : W} {h : VH} : prg.call (n + 1) f_law_guest [a0] h = (evSs (prg.cfg n) b_law_guest (env0 [a0]) h).bind retK := call_run (d := ⟨1, b_law_guest⟩) rfl rfl
theorem u_law_frames {n : Nat} {a0 : W} {h : VH} : prg.call (n + 1) f_law_frames [a0] h = (evSs (prg.cfg n) b_law_frames (env0 [a0]) h).bind retK := call_run (d := ⟨1, b_law_frames⟩) rfl rfl
theorem u_law_worst {n : Nat} {a0 : W} {h : VH} : prg.call (n + 1) f_law_worst [a0] h = (evSs (prg.cfg n) b_law_worst (env0 [a0]) h).bind retK := call_run (d := ⟨1, b_law_worst⟩) rfl rfl
theorem u_law_plan {n : Nat} {a0 a1 a2 : W} {h : VH} : prg.call (n + 1) f_law_plan [a0, a1, a2] h = (evSs (prg.cfg n) b_law_plan (env0 [a0, a1, a2]) h).bind retK := call_run (d := ⟨3, b_law_plan⟩) rfl rfl
theorem u_law_hears {n : Nat} {a0 a1 : W} {h : VH} : prg.call (n + 1) f_law_hears [a0, a1] h = (evSs (prg.cfg n) b_law_hears (env0 [a0, a1]) h).bind retK := call_run (d := ⟨2, b_law_hears⟩) rfl rfl
theorem u_law_system {n : Nat} {a0 a1 : W} {h : VH} : prg.call (n + 1) f_law_system [a0, a1] h = (evSs (prg.cfg n) b_law_system (env0 [a0, a1]) h).bind retK := call_run (d := ⟨2, b_law_system⟩) rfl rfl
theorem u_law_bring {n : Nat} {a0 a1 a2 : W} {h : VH} : prg.call (n + 1) f_law_bring [a0, a1, a2] h = (evSs (prg.cfg n) b_law_bring (env0 [a0, a1, a2]) h).bind retK := call_run (d := ⟨3, b_law_bring⟩) rfl rfl
theorem u_law_meet {n : Nat} {a0 a1 a2 : W} {h : VH} : prg.call (n + 1) f_law_meet [a0, a1, a2] h = (evSs (prg.cfg n) b_law_meet (env0 [a0, a1, a2]) h).bind retK := call_run (d := ⟨3, b_law_meet⟩) rfl rfl
theorem u_law_wait {n : Nat} {a0 a1 a2 : W} {h : VH} : prg.call (n + 1) f_law_wait [a0, a1, a2] h = (evSs (prg.cfg n) b_law_wait (env0 [a0, a1, a2]) h).bind retK := call_run (d := ⟨3, b_law_wait⟩) rfl rfl
theorem u_law_answer {n : Nat} {a0 a1 a2 a3 : W} {h : VH} : prg.call (n + 1) f_law_answer [a0, a1, a2, a3] h = (evSs (prg.cfg n) b_law_answer (env0 [a0, a1, a2, a3]) h).bind retK := call_run (d := ⟨4, b_law_answer⟩) rfl rfl
theorem u_law_step {n : Nat} {a0 a1 a2 : W} {h : VH} : prg.call (n + 1) f_law_step [a0, a1, a2] h = (evSs (prg.cfg n) b_law_step (env0 [a0, a1, a2]) h).bind retK := call_run (d := ⟨3, b_law_step⟩) rfl rfl
theorem u_law_slot {n : Nat} {a0 : W} {h : VH} : prg.call (n + 1) f_law_slot [a0] h = (evSs (prg.cfg n) b_law_slot (env0 [a0]) h).bind retK := call_run (d := ⟨1, b_law_slot⟩) rfl rfl
theorem u_law_run_plan {n : Nat} {a0 a1 a2 : W} {h : VH} : prg.call (n + 1) f_law_run_plan [a0, a1, a2] h = (evSs (prg.cfg n) b_law_run_plan (env0 [a0, a1, a2]) h).bind retK := call_run (d := ⟨3, b_law_run_plan⟩) rfl rfl
theorem u_law_same {n : Nat} {a0 a1 : W} {h : VH} : prg.call (n + 1) f_law_same [a0, a1] h = (evSs (prg.cfg n) b_law_same (env0 [a0, a1]) h).bind retK := call_run (d := ⟨2, b_law_same⟩) rfl rfl
theorem u_law_heard {n : Nat} {a0 a1 : W} {h : VH} : prg.call (n + 1) f_law_heard [a0, a1] h = (evSs (prg.cfg n) b_law_heard (env0 [a0, a1]) h).bind retK := call_run (d := ⟨2, b_law_heard⟩) rfl rfl
theorem u_law_asks {n : Nat} {a0 : W} {h : VH} : prg.call (n + 1) f_law_asks [a0] h = (evSs (prg.cfg n) b_law_asks (env0 [a0]) h).bind retK := call_run (d := ⟨1, b_law_asks⟩) rfl rfl
theorem u_law {n : Nat} {a0 : W} {h : VH} : prg.call (n + 1) f_law [a0] h = (evSs (prg.cfg n) b_law (env0 [a0]) h).bind retK := call_run (d := ⟨1, b_law⟩) rfl rfl
def topS (i : Nat) : Stmt := PySem.Challenge.pw_nowhisper_k75_what_was_heard.main.body.getD i (.Pass ⟨0, 0, 0, 0⟩)
def clsN : List Str := []
def ds : List DefI := [
  ⟨"names_of", none, "names_of", topS 1, ["plan", "name", "_"], ["plan"]⟩,
  ⟨"channels_to", none, "channels_to", topS 2, ["plan", "g", "name", "k"], ["plan", "g"]⟩,
  ⟨"teller", none, "teller", topS 3, ["plan", "channel"], ["plan", "channel"]⟩,
  ⟨"hears", none, "hears", topS 4, ["plan", "g", "found", "waiting", "one", "channel"], ["plan", "g"]⟩,
  ⟨"heard_in", none, "heard_in", topS 6, ["plan", "entry", "known", "g", "found", "into", "deed", "other"], ["plan", "entry", "known"]⟩,
  ⟨"heard", none, "heard", topS 7, ["plan", "entries", "known", "told", "entry", "g"], ["plan", "entries"]⟩,
  ⟨"_law_draws", none, "_law_draws", topS 9, ["script", "many", "draws", "mixed", "k", "cell", "rest", "turn"], ["script", "many"]⟩,
  ⟨"_law_next", none, "_law_next", topS 10, ["w", "many"], ["w", "many"]⟩,
  ⟨"_law_pick", none, "_law_pick", topS 11, ["w", "rows"], ["w", "rows"]⟩,
  ⟨"_law_word", none, "_law_word", topS 12, ["w", "turn", "high"], ["w"]⟩,
  ⟨"_law_signs", none, "_law_signs", topS 13, [], []⟩,
  ⟨"_law_operate", none, "_law_operate", topS 14, ["sign", "a", "b"], ["sign", "a", "b"]⟩,
  ⟨"_law_number", none, "_law_number", topS 15, ["kind", "kinds"], ["kind"]⟩,
  ⟨"_law_code_word", none, "_law_code_word", topS 16, ["row", "kind", "found", "place"], ["row"]⟩,
  ⟨"_law_machine", none, "_law_machine", topS 17, ["guest", "answers", "code", "size", "first", "base", "memory", "row"], ["guest", "answers"]⟩,
  ⟨"_law_met", none, "_law_met", topS 18, ["m", "row", "regs", "memory", "place"], ["m", "row"]⟩,
  ⟨"_law_told", none, "_law_told", topS 19, ["m", "row", "regs", "answer"], ["m", "row"]⟩,
  ⟨"_law_instruction", none, "_law_instruction", topS 20, ["m", "row", "kind", "regs"], ["m", "row"]⟩,
  ⟨"_law_reach", none, "_law_reach", topS 22, ["w", "code", "size", "r", "turn", "kind", "a"], ["w", "code", "size"]⟩,
  ⟨"_law_piece", none, "_law_piece", topS 23, ["w", "code", "size", "r", "a", "b", "turn", "c", "at", "k"], ["w", "code", "size"]⟩,
  ⟨"_law_guest", none, "_law_guest", topS 24, ["w", "size", "code", "k", "turn", "base", "row"], ["w"]⟩,
  ⟨"_law_frames", none, "_law_frames", topS 25, ["plan", "colours", "many", "found", "at", "g", "frames", "fit", "f", "k"], ["plan"]⟩,
  ⟨"_law_worst", none, "_law_worst", topS 26, ["ticks"], ["ticks"]⟩,
  ⟨"_law_plan", none, "_law_plan", topS 27, ["w", "quiet", "many", "names", "keeping", "cache", "look", "ticks", "guests", "channels", "k", "one", "other", "turn", "order", "slots", "plan", "most", "name", "frames"], ["w", "quiet", "many"]⟩,
  ⟨"_law_hears", none, "_law_hears", topS 28, ["plan", "g", "names", "found", "turn", "channel", "one", "k"], ["plan", "g"]⟩,
  ⟨"_law_system", none, "_law_system", topS 29, ["plan", "guests", "y", "frames", "g", "m", "k", "channel", "one"], ["plan", "guests"]⟩,
  ⟨"_law_bring", none, "_law_bring", topS 30, ["y", "m", "page", "frame", "gone", "many", "sets", "line", "pair", "one"], ["y", "m", "page"]⟩,
  ⟨"_law_meet", none, "_law_meet", topS 31, ["y", "m", "address", "plan", "key", "frames", "spent", "line", "place", "sets", "pair", "one"], ["y", "m", "address"]⟩,
  ⟨"_law_wait", none, "_law_wait", topS 32, ["y", "k", "word", "waits"], ["y", "k", "word"]⟩,
  ⟨"_law_answer", none, "_law_answer", topS 33, ["y", "m", "row", "clock", "waits", "k"], ["y", "m", "row", "clock"]⟩,
  ⟨"_law_step", none, "_law_step", topS 34, ["y", "m", "clock", "at", "row", "spent", "place"], ["y", "m", "clock"]⟩,
  ⟨"_law_slot", none, "_law_slot", topS 35, ["y", "plan", "name", "ticks", "m", "used", "begin", "turn", "rested", "k"], ["y"]⟩,
  ⟨"_law_run_plan", none, "_law_run_plan", topS 36, ["plan", "guests", "many", "y", "k"], ["plan", "guests", "many"]⟩,
  ⟨"_law_same", none, "_law_same", topS 37, ["told", "due", "k"], ["told", "due"]⟩,
  ⟨"_law_heard", none, "_law_heard", topS 38, ["plan", "entries", "names", "known", "found", "entry", "g", "to", "deed", "other", "one", "channel"], ["plan", "entries"]⟩,
  ⟨"_law_asks", none, "_law_asks", topS 39, ["w", "plan", "guests", "entries", "due", "g", "lead", "one", "k"], ["w"]⟩,
  ⟨"law", none, "law", topS 40, ["script", "w"], ["script"]⟩]
theorem ds_ok : defsB ⟨ds.map (·.g), clsN⟩ ds prg.fns = true := by decide +kernel
theorem mths_ok : mthsB ds mths = true := by decide +kernel
end Nw

set_option Elab.async false
set_option linter.all false
set_option maxRecDepth 100000
set_option maxHeartbeats 4000000
/-! Contracts of the laws' own helpers: draws. -/
namespace Nw
open PySem PySem.Spec PyProof.Rows L2
abbrev sDraws : Str := S [100, 114, 97, 119, 115]
abbrev sAt : Str := S [97, 116]
/-- w: the dict of draws -/
def WOk (h : VH) (w d : Nat) : Prop := ∃ (ds : List Int) (k : Int), hg h w = some (.dct [(.inr sDraws, .ref d), (.inr sAt, .int k)]) ∧ hg h d = some (.lst (ds.map W.int)) ∧ (∀ x ∈ ds, 0 ≤ x) ∧ 0 ≤ k
theorem WOk.mod {s : Nat → Prop} {h h' : VH} {w d : Nat} (a : WOk h w d) (m : Mod s h h') (n1 : ¬ s w) (n2 : ¬ s d) : WOk h' w d := by
  obtain ⟨ds, k, h1, h2, h3, h4⟩ := a
  exact ⟨ds, k, m.get h1 n1, m.get h2 n2, h3, h4⟩
theorem WOk.new {h : VH} {w d : Nat} {o : O} (a : WOk h w d) : WOk (hn h o) w d := a.mod (s := no) Mod.new (fun z => z) (fun z => z)
/-- a number that was drawn -/
abbrev Drawn (h : VH) (w d : Nat) (p : Int → Prop) (a : W) (h' : VH) : Prop := ∃ v : Int, a = .int v ∧ p v ∧ WOk h' w d ∧ Mod (· = w) h h'
theorem c_next {n : Nat} {h : VH} {w d : Nat} {many : Int} (a : WOk h w d) (hm : 0 < many) :
    Run (prg.call (n + 1) f_law_next [.ref w, .int many] h) (Drawn h w d fun v => 0 ≤ v ∧ v < many) := by
  obtain ⟨ds, k, h1, h2, h3, h4⟩ := a
  have hne : w ≠ d := by rintro rfl; rw [h1] at h2; cases h2
  rw [u_law_next]
  have m : Mod (· = w) h (hs h w (.dct [(.inr sDraws, .ref d), (.inr sAt, .int (k + 1))])) := Mod.set rfl
  have wok : WOk (hs h w (.dct [(.inr sDraws, .ref d), (.inr sAt, .int (k + 1))])) w d := ⟨ds, k + 1, by simp [h1], by simp [h2, hne], h3, by omega⟩
  refine run_q fun Q q => ?_
  simp [b_law_next, h1, h2, hne]
  refine run_ite (fun c => ?_) (fun c => ?_)
  · simp only [run_ok]
    exact q _ _ ⟨0, rfl, ⟨by omega, hm⟩, wok, m⟩
  · have e : atW (ds.map W.int) k = some (.int (ds[k.toNat]?.getD 0)) := by
      rw [atW_pos h4, List.getElem?_map, List.getElem?_eq_getElem (by omega)]
      simp
    simp [h1, h2, hne, e, hm]
    exact q _ _ ⟨_, rfl, ⟨Int.emod_nonneg _ (by omega), Int.emod_lt_of_pos _ hm⟩, wok, m⟩
theorem z_pow18 (h : VH) : binW .pow (.int 10) (.int 18) h = .ok (.int 1000000000000000000) h := by
  rfl
/-- the list that is gathered: ints, none below 0 -/
def NN (h : VH) (r : Nat) (b : Nat) : Prop := ∃ ds : List Int, hg h r = some (.lst (ds.map W.int)) ∧ (∀ x ∈ ds, 0 ≤ x) ∧ ds.length ≤ b
theorem NN.push {h : VH} {r b : Nat} {ds : List Int} {v : Int} (h1 : hg h r = some (.lst (ds.map W.int))) (h2 : ∀ x ∈ ds, 0 ≤ x) (h3 : ds.length ≤ b) (hv : 0 ≤ v) : NN (hs h r (.lst (ds.map W.int ++ [.int v]))) r (b + 1) :=
  ⟨ds ++ [v], by simp [h1], fun x hx => by rcases List.mem_append.mp hx with z | z; exact h2 x z; simp at z; omega, by simp; omega⟩
abbrev DI (h0 : VH) (s : List W) (many : Int) (r : Nat) (b : Nat) (env : Env) (h : VH) : Prop :=
  env 0 = some (.rol s) ∧ env 1 = some (.int many) ∧ env 2 = some (.ref r) ∧ (∃ m : Int, env 3 = some (.int m)) ∧ NN h r b ∧ Mod no h0 h ∧ h0.length ≤ r
theorem mod_push {h0 h : VH} {r : Nat} {o : O} (m : Mod no h0 h) (hr : h0.length ≤ r) : Mod no h0 (hs h r o) := m.seq (t := (· = r)) (Mod.set rfl) (fun q _ z => z) (fun q l z => by omega)
theorem draws_2 {n : Nat} {h0 : VH} {s : List W} {many : Int} {r b : Nat} (hb : b < 100000) {env : Env} {h : VH} (w : W) (a : DI h0 s many r b env h ∧ ∃ v : Int, env 6 = some (.int v)) :
    Run (forF (prg.cfg n) (.nm 7) l_law_draws_2 w env h) fun r' h' => r'.1 = .nx ∧ (DI h0 s many r (b + 1) r'.2 h' ∧ ∃ v : Int, r'.2 6 = some (.int v)) := by
  obtain ⟨⟨a1, a2, a3, ⟨m, a4⟩, ⟨ds, p1, p2, p3⟩, a6, a7⟩, v, hv⟩ := a
  have : ds.length < 16777216 := by omega
  refine run_q fun Q q => ?_
  simp [l_law_draws_2, hv]
  refine run_ite (fun c => ?_) (fun c => ?_)
  · have z := NN.push p1 p2 p3 (v := v % 997) (Int.emod_nonneg _ (by omega))
    simp [a3, hv, c, p1, this]
    exact q _ _ ⟨rfl, ⟨by simp [a1], by simp [a2], by simp [a3], ⟨m, by simp [a4]⟩, z, mod_push a6 a7, a7⟩, by simp⟩
  · simp
    exact q _ _ ⟨rfl, ⟨by simp [a1], by simp [a2], by simp [a3], ⟨m, by simp [a4]⟩, ⟨ds, p1, p2, by omega⟩, a6, a7⟩, ⟨v, by simp [hv]⟩⟩
theorem draws_1 {n : Nat} {h0 : VH} {ns : List Int} {many : Int} {r b : Nat} (hb : b < 50000) {env : Env} {h : VH} {k : Nat} (hk : k < ns.length) (a : DI h0 (ns.map W.int) many r b env h) :
    Run (forF (prg.cfg n) (.nm 4) l_law_draws_1 (.int k) env h) fun r' h' => r'.1 = .nx ∧ DI h0 (ns.map W.int) many r (b + 62) r'.2 h' := by
  obtain ⟨a1, a2, a3, ⟨m, a4⟩, ⟨ds, p1, p2, p3⟩, a6, a7⟩ := a
  have hx : atW (ns.map W.int) (k : Int) = some (.int ns[k]) := by rw [atW_nat, List.getElem?_map, List.getElem?_eq_getElem hk]; rfl
  have key : ∀ (env : Env) (h : VH), (DI h0 (ns.map W.int) many r (b + 2) env h ∧ ∃ v : Int, env 6 = some (.int v)) →
      Run (forK (forF (prg.cfg n) (.nm 7) l_law_draws_2) env (.ws (rangeW 0 60)) h) fun r' h' => r'.1 = .nx ∧ DI h0 (ns.map W.int) many r (b + 62) r'.2 h' := fun env h a => by
    refine (for_all (rangeW 0 60) (fun i env h => DI h0 (ns.map W.int) many r (b + 2 + i) env h ∧ ∃ v : Int, env 6 = some (.int v)) a (fun _ _ _ _ => rfl) (fun i w env h hw a => ?_)).imp fun r' h' ⟨q1, q2, _⟩ => ⟨q1, q2⟩
    have := range_at hw
    exact draws_2 (b := b + 2 + i) (by omega) w a
  generalize hc : (if ns[k] < 0 then -ns[k] else ns[k]) = c0
  have h1 : ds.length < 16777216 := by omega
  have h2 : ds.length + 1 < 16777216 := by omega
  have fin : ∀ (env : Env) (h : VH), (DI h0 (ns.map W.int) many r (b + 2) env h ∧ ∃ v : Int, env 6 = some (.int v)) →
      Run ((forK (forF (prg.cfg n) (.nm 7) l_law_draws_2) env (.ws (rangeW 0 60)) h).bind (k_ss (prg.cfg n) [])) fun r' h' => r'.1 = .nx ∧ DI h0 (ns.map W.int) many r (b + 62) r'.2 h' := fun env h a => by
    refine run_bind (key env h a) fun r' h' ⟨q1, q2⟩ => ?_
    rcases r' with ⟨fl, e⟩
    cases q1
    simpa using q2
  simp [l_law_draws_1, a1, a4, hx, hc, z_pow18]
  refine run_ite (fun c => ?_) (fun c => ?_)
  · refine fin _ _ ⟨⟨by simp [a1], by simp [a2], by simp [a3], by simp, ⟨ds, p1, p2, by omega⟩, a6, a7⟩, by simp⟩
  · simp [a3, p1, h1, h2]
    refine fin _ _ ⟨⟨by simp [a1], by simp [a2], by simp [a3], by simp, ?_, mod_push (mod_push a6 a7) a7, a7⟩, by simp⟩
    refine ⟨ds ++ [c0 % 997, ((m * 48271 + c0 % 1000003 + k) % 65537 * 69621 + 5) % 65521 % 997], by simp [p1], fun x hx => ?_, by simp; omega⟩
    simp only [List.mem_append, List.mem_cons, List.not_mem_nil, or_false] at hx
    rcases hx with z | z | z
    · exact p2 x z
    · omega
    · omega
theorem draws_3 {n : Nat} {h0 : VH} {s : List W} {many : Int} {r b : Nat} (hb : b < 200000) {env : Env} {h : VH} {k : Int} (a : DI h0 s many r b env h) :
    Run (forF (prg.cfg n) (.nm 4) l_law_draws_3 (.int k) env h) fun r' h' => r'.1 = .nx ∧ DI h0 s many r (b + 1) r'.2 h' := by
  obtain ⟨a1, a2, a3, ⟨m, a4⟩, ⟨ds, p1, p2, p3⟩, a6, a7⟩ := a
  have : ds.length < 16777216 := by omega
  refine run_q fun Q q => ?_
  simp [l_law_draws_3, a4, a3, p1, this]
  exact q _ _ ⟨rfl, by simp [a1], by simp [a2], by simp [a3], by simp, NN.push p1 p2 p3 (by omega), mod_push a6 a7, a7⟩
theorem c_draws {n : Nat} {h : VH} {ns : List Int} {many : Int} (hl : ns.length ≤ 63) (h0 : 0 ≤ many) (h1 : many < 100000) :
    Run (prg.call (n + 1) f_law_draws [.rol (ns.map W.int), .int many] h) fun a h' => ∃ r b, a = .ref r ∧ NN h' r b ∧ h.length ≤ r ∧ Mod no h h' := by
  refine run_q fun Q q => ?_
  have e1 : (ns.length : Int) < 2305843009213693952 := by omega
  have e2 : many < 2305843009213693952 := by omega
  rw [u_law_draws]
  simp [b_law_draws, e1]
  refine run_bind (for_all (rangeW 0 ns.length) (fun i env h' => DI h (ns.map W.int) many (nx h 0) (62 * i) env h') ⟨by simp, by simp, by simp, by simp, ⟨[], by simp, by simp, by simp⟩, Mod.new, nx_le (Nat.le_refl _) 0⟩ (fun _ _ _ _ => rfl) (fun i w env h' hw a => ?_)) ?_
  · obtain ⟨rfl, lt⟩ := range_at hw
    simp only [Int.zero_add]
    have := draws_1 (n := n) (k := i) (ns := ns) (by omega) (by omega) a
    exact this
  rintro ⟨_, env⟩ h2 ⟨rfl, a⟩
  dsimp only at a
  rw [range_len] at a
  obtain ⟨a1, a2, a3, ⟨m, a4⟩, a5, a6, a7⟩ := a
  simp [a2, e2, h0]
  refine run_bind (for_all (rangeW 0 many) (fun i env h' => DI h (ns.map W.int) many (nx h 0) (62 * ns.length + i) env h') ⟨a1, a2, a3, ⟨m, a4⟩, ?_, a6, a7⟩ (fun _ _ _ _ => rfl) (fun i w env h' hw a => ?_)) ?_
  · simpa using a5
  · obtain ⟨rfl, lt⟩ := range_at hw
    exact draws_3 (b := 62 * ns.length + i) (by omega) a
  rintro ⟨_, env⟩ h3 ⟨rfl, a⟩
  dsimp only at a
  rw [range_len] at a
  obtain ⟨a1, a2, a3, ⟨m, a4⟩, ⟨ds, p1, p2, p3⟩, a6, a7⟩ := a
  simp [a2, a3, p1]
  refine q _ _ ⟨_, _, rfl, ⟨cut ds none (some many), ?_, fun x hx => p2 x (cut_mem hx), Nat.le_refl _⟩, nx_le a6.1 0, a6.trans Mod.new⟩
  rw [← cut_map]
  simp
end Nw

set_option Elab.async false
set_option linter.all false
set_option maxRecDepth 100000
set_option maxHeartbeats 4000000
/-! The laws' own machine: an operator. -/
namespace Nw
open PySem PySem.Spec PyProof.Rows L2
theorem c_operate {n : Nat} {h : VH} {s : Str} {a b : Int} (hs : s ∈ signs) (ha : isW a) (hb : isW b) :
    Run (prg.call (n + 1) f_law_operate [.str s, .int a, .int b] h) fun r h' => r = .int (opI s a b) ∧ h' = h := by
  refine run_q fun Q q => ?_
  obtain ⟨a0, a1⟩ := ha
  obtain ⟨b0, b1⟩ := hb
  have n1 : a.natAbs < 1152921504606846976 := by omega
  have n2 : b.natAbs < 1152921504606846976 := by omega
  have n3 : b < 1267650600228229401496703205376 := by omega
  rw [u_law_operate]
  simp only [signs, List.mem_cons, List.not_mem_nil, or_false] at hs
  rcases hs with rfl | rfl | rfl | rfl | rfl | rfl | rfl | rfl | rfl | rfl | rfl | rfl
  · simp [b_law_operate]; exact q _ _ ⟨by simp [opI], rfl⟩
  · simp [b_law_operate]; exact q _ _ ⟨by simp [opI], rfl⟩
  · simp [b_law_operate, n1, n2]; exact q _ _ ⟨by simp [opI], rfl⟩
  · simp [b_law_operate]
    refine run_ite (fun c => ?_) (fun c => ?_)
    · simp; exact q _ _ ⟨by simp [opI, c], rfl⟩
    · have : 0 < b := by omega
      simp [this, n3]; exact q _ _ ⟨by simp [opI, c], rfl⟩
  · simp [b_law_operate]
    refine run_ite (fun c => ?_) (fun c => ?_)
    · simp; exact q _ _ ⟨by simp [opI, c], rfl⟩
    · have : 0 < b := by omega
      simp [this, n3]; exact q _ _ ⟨by simp [opI, c], rfl⟩
  · simp [b_law_operate]; exact q _ _ ⟨by simp [opI], rfl⟩
  · simp [b_law_operate]; exact q _ _ ⟨by simp [opI], rfl⟩
  · simp [b_law_operate]; exact q _ _ ⟨by simp [opI], rfl⟩
  · simp [b_law_operate]; exact q _ _ ⟨by simp [opI], rfl⟩
  · simp [b_law_operate]; exact q _ _ ⟨by simp [opI], rfl⟩
  · simp [b_law_operate]
    refine run_ite (fun c => ?_) (fun c => ?_)
    · simp; exact q _ _ ⟨by simp [opI, c], rfl⟩
    · simp [z_shl b0 (by omega) n1]; exact q _ _ ⟨by simp [opI, c], rfl⟩
  · simp [b_law_operate]
    refine run_ite (fun c => ?_) (fun c => ?_)
    · simp; exact q _ _ ⟨by simp [opI, c], rfl⟩
    · simp [z_shr b0]; exact q _ _ ⟨by simp [opI, c], rfl⟩
end Nw

set_option Elab.async false
set_option linter.all false
set_option maxRecDepth 100000
set_option maxHeartbeats 4000000
/-! Words drawn. -/
namespace Nw
open PySem PySem.Spec PyProof.Rows L2
/-! ### words -/
theorem Drawn.mod {h : VH} {w d : Nat} {p : Int → Prop} {a : W} {h' : VH} (z : Drawn h w d p a h') : Mod (· = w) h h' := by obtain ⟨_, _, _, _, m⟩ := z; exact m
theorem c_pick {n : Nat} {h : VH} {w d r : Nat} {ws : List W} (a : WOk h w d) (hr : hg h r = some (.lst ws)) (hne : ws ≠ []) (hw : r ≠ w) :
    Run (prg.call (n + 2) f_law_pick [.ref w, .ref r] h) fun x h' => x ∈ ws ∧ WOk h' w d ∧ Mod (· = w) h h' := by
  refine run_q fun Q q => ?_
  rw [u_law_pick]
  have l : 0 < ws.length := List.length_pos_iff.mpr hne
  simp [b_law_pick, hr]
  refine run_bind (c_next a (by omega)) ?_
  rintro _ h1 ⟨v, rfl, ⟨v0, v1⟩, a1, m1⟩
  have hr1 : hg h1 r = some (.lst ws) := m1.get hr hw
  have e : atW ws v = some ws[v.toNat] := by rw [atW_pos v0, List.getElem?_eq_getElem (by omega)]
  simp [hr1, e]
  exact q _ _ ⟨List.getElem_mem _, a1, m1⟩
theorem c_pickT {n : Nat} {h : VH} {w d : Nat} {ws : List W} (a : WOk h w d) (hne : ws ≠ []) :
    Run (prg.call (n + 2) f_law_pick [.ref w, .tup ws] h) fun x h' => x ∈ ws ∧ WOk h' w d ∧ Mod (· = w) h h' := by
  refine run_q fun Q q => ?_
  rw [u_law_pick]
  have l : 0 < ws.length := List.length_pos_iff.mpr hne
  simp [b_law_pick]
  refine run_bind (c_next a (by omega)) ?_
  rintro _ h1 ⟨v, rfl, ⟨v0, v1⟩, a1, m1⟩
  have e : atW ws v = some ws[v.toNat] := by rw [atW_pos v0, List.getElem?_eq_getElem (by omega)]
  simp [e]
  exact q _ _ ⟨List.getElem_mem _, a1, m1⟩
theorem WOk.lt {h : VH} {w d : Nat} (a : WOk h w d) : w < h.length ∧ d < h.length := by
  obtain ⟨_, _, h1, h2, _⟩ := a
  exact ⟨lt_of_get h1, lt_of_get h2⟩
theorem c_word {n : Nat} {h : VH} {w d : Nat} (a : WOk h w d) : Run (prg.call (n + 3) f_law_word [.ref w] h) (Drawn h w d isW) := by
  refine run_q fun Q q => ?_
  have nxt := fun {h : VH} {many : Int} (a : WOk h w d) (hm : 0 < many) => c_next (n := n + 1) a hm
  rw [u_law_word]
  simp [b_law_word]
  refine run_bind (nxt a (by omega)) ?_
  rintro _ h1 ⟨t, rfl, ⟨t0, t1⟩, a1, m1⟩
  simp
  refine run_ite (fun c => ?_) (fun c => ?_)
  · refine run_bind (nxt a1 (by omega)) ?_
    rintro _ h2 ⟨v, rfl, ⟨v0, v1⟩, a2, m2⟩
    simp
    exact q _ _ ⟨v, rfl, ⟨by omega, by omega⟩, a2, m1.trans m2⟩
  refine run_ite (fun c => ?_) (fun c => ?_)
  · have hw : nx h1 0 ≠ w := by have := a1.lt.1; unfold nx; omega
    refine run_bind (c_pick (n := n) (r := nx h1 0) a1.new hg_new' (by simp) hw) ?_
    rintro _ h2 ⟨hx, a2, m2⟩
    simp at hx
    have m := m1.trans (Mod.new.trans m2)
    rcases hx with rfl | rfl | rfl | rfl | rfl | rfl | rfl | rfl <;> (simp; exact q _ _ ⟨_, rfl, ⟨by omega, by omega⟩, a2, m⟩)
  refine run_ite (fun c => ?_) (fun c => ?_)
  · refine run_bind (nxt a1 (by omega)) ?_
    rintro _ h2 ⟨v, rfl, ⟨v0, v1⟩, a2, m2⟩
    simp
    exact q _ _ ⟨_, rfl, ⟨by omega, by omega⟩, a2, m1.trans m2⟩
  refine run_ite (fun c => ?_) (fun c => ?_)
  · refine run_bind (nxt a1 (by omega)) ?_
    rintro _ h2 ⟨v, rfl, ⟨v0, v1⟩, a2, m2⟩
    simp
    exact q _ _ ⟨v, rfl, ⟨by omega, by omega⟩, a2, m1.trans m2⟩
  refine run_bind (nxt a1 (by omega)) ?_
  rintro _ h2 ⟨v, rfl, ⟨v0, v1⟩, a2, m2⟩
  simp
  refine run_bind (nxt a2 (by omega)) ?_
  rintro _ h3 ⟨u, rfl, ⟨u0, u1⟩, a3, m3⟩
  simp
  refine run_bind (nxt a3 (by omega)) ?_
  rintro _ h4 ⟨y, rfl, ⟨y0, y1⟩, a4, m4⟩
  simp
  exact q _ _ ⟨_, rfl, ⟨by omega, by omega⟩, a4, ((m1.trans m2).trans m3).trans m4⟩
end Nw

set_option Elab.async false
set_option linter.all false
set_option maxRecDepth 100000
set_option maxHeartbeats 4000000
/-! The laws' own machine: one instruction. -/
namespace Nw
open PySem PySem.Spec PyProof.Rows L2
section
variable (g : MG) (rm rr rd rt : Nat) (M : MS)
@[simp high] theorem md_code : dget (mD g rm rr rd rt M) (.inr (S [99, 111, 100, 101])) = some (codeW g) := by simp [mD]
@[simp high] theorem md_mem : dget (mD g rm rr rd rt M) (.inr (S [109, 101, 109, 111, 114, 121])) = some (.ref rm) := by simp [mD]
@[simp high] theorem md_base : dget (mD g rm rr rd rt M) (.inr (S [98, 97, 115, 101])) = some (.int g.base) := by simp [mD]
@[simp high] theorem md_regs : dget (mD g rm rr rd rt M) (.inr (S [114, 101, 103, 115])) = some (.ref rr) := by simp [mD]
@[simp high] theorem md_at : dget (mD g rm rr rd rt M) (.inr (S [97, 116])) = some (.int M.at_) := by simp [mD]
@[simp high] theorem md_ans : dget (mD g rm rr rd rt M) (.inr (S [97, 110, 115, 119, 101, 114, 115])) = some (.tup (g.ans.map W.int)) := by simp [mD]
@[simp high] theorem md_given : dget (mD g rm rr rd rt M) (.inr (S [103, 105, 118, 101, 110])) = some (.int (M.given : Nat)) := by simp [mD]
@[simp high] theorem md_deeds : dget (mD g rm rr rd rt M) (.inr (S [100, 101, 101, 100, 115])) = some (.ref rd) := by simp [mD]
@[simp high] theorem md_word : dget (mD g rm rr rd rt M) (.inr (S [119, 111, 114, 100])) = some (.str M.word) := by simp [mD]
@[simp high] theorem md_done : dget (mD g rm rr rd rt M) (.inr (S [100, 111, 110, 101])) = some (.int M.done) := by simp [mD]
@[simp high] theorem md_met : dget (mD g rm rr rd rt M) (.inr (S [109, 101, 116])) = some (.ref rt) := by simp [mD]
@[simp high] theorem mds_at (v : Int) : dset (mD g rm rr rd rt M) (.inr (S [97, 116])) (.int v) = mD g rm rr rd rt { M with at_ := v } := by
  rw [x_ds, if_pos (by simp [mD])]
  unfold mD
  rw [List.map_append, ext_id (by simp)]
  simp
@[simp high] theorem mds_word (v : Str) : dset (mD g rm rr rd rt M) (.inr (S [119, 111, 114, 100])) (.str v) = mD g rm rr rd rt { M with word := v } := by
  rw [x_ds, if_pos (by simp [mD])]
  unfold mD
  rw [List.map_append, ext_id (by simp)]
  simp
@[simp high] theorem mds_done (v : Int) : dset (mD g rm rr rd rt M) (.inr (S [100, 111, 110, 101])) (.int v) = mD g rm rr rd rt { M with done := v } := by
  rw [x_ds, if_pos (by simp [mD])]
  unfold mD
  rw [List.map_append, ext_id (by simp)]
  simp
@[simp high] theorem mds_given : dset (mD g rm rr rd rt M) (.inr (S [103, 105, 118, 101, 110])) (.int ((M.given : Int) + 1)) = mD g rm rr rd rt { M with given := M.given + 1 } := by
  rw [x_ds, if_pos (by simp [mD])]
  unfold mD
  rw [List.map_append, ext_id (by simp)]
  simp
@[simp high] theorem md_len : ((mD g rm rr rd rt M).length < 16777216) = True := by
  have := g.ext.len
  simp [mD]
  omega
theorem mD_regs (x : List Int) : mD g rm rr rd rt { M with regs := x } = mD g rm rr rd rt M := rfl
end
section
variable {h : VH} {g : MG} {m rm rr rd rt : Nat} {M : MS}
theorem MR.ne2 (a : MR h g m rm rr rd rt M) : m ≠ rm ∧ m ≠ rr ∧ m ≠ rd ∧ m ≠ rt ∧ rm ≠ m ∧ rr ≠ m ∧ rd ≠ m ∧ rt ≠ m ∧ rm ≠ rr ∧ rm ≠ rd ∧ rm ≠ rt ∧ rr ≠ rd ∧ rr ≠ rt ∧ rd ≠ rt ∧ rr ≠ rm ∧ rd ≠ rm ∧ rt ≠ rm ∧ rd ≠ rr ∧ rt ≠ rr ∧ rt ≠ rd := by
  have h1 : m ≠ rm := ne_of_get a.hm a.hmm (by simp)
  have h2 : m ≠ rr := ne_of_get a.hm a.hrr (by simp)
  have h3 : m ≠ rd := ne_of_get a.hm a.hrd (by simp)
  have h4 : m ≠ rt := ne_of_get a.hm a.hrt (by simp)
  obtain ⟨n1, n2, n3, n4, n5, n6⟩ := a.ne
  exact ⟨h1, h2, h3, h4, h1.symm, h2.symm, h3.symm, h4.symm, n1, n2, n3, n4, n5, n6, n1.symm, n2.symm, n3.symm, n4.symm, n5.symm, n6.symm⟩
theorem MR.dict (a : MR h g m rm rr rd rt M) {M' : MS} (e1 : M'.mem = M.mem) (e2 : M'.regs = M.regs) (e3 : M'.deeds = M.deeds) (e4 : M'.met = M.met) : MR (hs h m (.dct (mD g rm rr rd rt M'))) g m rm rr rd rt M' := by
  obtain ⟨n1, n2, n3, n4, _⟩ := a.ne2
  exact ⟨by simp [a.hm], by simp [n1, a.hmm, e1], by simp [n2, a.hrr, e2], by simp [n3, a.hrd, e3], by simp [n4, a.hrt, e4], a.ne⟩
theorem MR.rg (a : MR h g m rm rr rd rt M) {l : List W} {x : List Int} (e : l = x.map W.int) : MR (hs h rr (.lst l)) g m rm rr rd rt { M with regs := x } := by
  obtain ⟨n1, n2, n3, n4, n5, n6, n7, n8, n9, n10, n11, n12, n13, n14, n15, n16, n17, n18, n19, n20⟩ := a.ne2
  exact ⟨by simp [a.hm, n6]; rfl, by simp [n15, a.hmm], by simp [a.hrr, e], by simp [a.hrd, n12], by simp [a.hrt, n13], a.ne⟩
theorem MR.mm (a : MR h g m rm rr rd rt M) {l : List W} {x : List Int} (e : l = x.map W.int) : MR (hs h rm (.lst l)) g m rm rr rd rt { M with mem := x } := by
  obtain ⟨n1, n2, n3, n4, n5, n6, n7, n8, n9, n10, n11, n12, n13, n14, n15, n16, n17, n18, n19, n20⟩ := a.ne2
  exact ⟨by simp [a.hm, n5]; rfl, by simp [a.hmm, e], by simp [a.hrr, n9], by simp [a.hrd, n10], by simp [a.hrt, n11], a.ne⟩
theorem MR.dd (a : MR h g m rm rr rd rt M) {l : List W} : MR (hs h rd (.lst l)) g m rm rr rd rt { M with deeds := l } := by
  obtain ⟨n1, n2, n3, n4, n5, n6, n7, n8, n9, n10, n11, n12, n13, n14, n15, n16, n17, n18, n19, n20⟩ := a.ne2
  exact ⟨by simp [a.hm, n7]; rfl, by simp [a.hmm, n16], by simp [a.hrr, n18], by simp [a.hrd], by simp [a.hrt, n14], a.ne⟩
theorem MR.mt (a : MR h g m rm rr rd rt M) {l : List W} : MR (hs h rt (.lst l)) g m rm rr rd rt { M with met := l } := by
  obtain ⟨n1, n2, n3, n4, n5, n6, n7, n8, n9, n10, n11, n12, n13, n14, n15, n16, n17, n18, n19, n20⟩ := a.ne2
  exact ⟨by simp [a.hm, n8]; rfl, by simp [a.hmm, n17], by simp [a.hrr, n19], by simp [a.hrd, n20], by simp [a.hrt], a.ne⟩
theorem MF.m0 {h : VH} {o : O} : Mod (MF m rm rr rd rt) h (hs h m o) := Mod.set (by simp [MF])
theorem MF.m1 {h : VH} {o : O} : Mod (MF m rm rr rd rt) h (hs h rm o) := Mod.set (by simp [MF])
theorem MF.m2 {h : VH} {o : O} : Mod (MF m rm rr rd rt) h (hs h rr o) := Mod.set (by simp [MF])
theorem MF.m3 {h : VH} {o : O} : Mod (MF m rm rr rd rt) h (hs h rd o) := Mod.set (by simp [MF])
theorem MF.m4 {h : VH} {o : O} : Mod (MF m rm rr rd rt) h (hs h rt o) := Mod.set (by simp [MF])
theorem c_met {n b : Nat} {i : Ins} (a : MR h g m rm rr rd rt M) (w : MW g b M) (hb : b < 1000000) (ok : InsOk i) (hi : (∃ r b n, i = .load r b n) ∨ ∃ r b n, i = .store r b n) (gb : 0 ≤ g.base) :
    Run (prg.call (n + 1) f_law_met [.ref m, insW i] h) fun x h' => x = .non ∧ MR h' g m rm rr rd rt (stepI g M i) ∧ Mod (MF m rm rr rd rt) h h' := by
  refine run_q fun Q q => ?_
  obtain ⟨n1, n2, n3, n4, n5, n6, n7, n8, n9, n10, n11, n12, n13, n14, n15, n16, n17, n18, n19, n20⟩ := a.ne2
  have h1 := a.hm
  have h2 := a.hmm
  have h3 := a.hrr
  have h4 := a.hrd
  have h5 := a.hrt
  have l1 : M.met.length < 16777216 := by have := w.met; omega
  have len := w.regs
  rw [u_law_met]
  rcases hi with ⟨r, c, k, rfl⟩ | ⟨r, c, k, rfl⟩
  · obtain ⟨⟨r0, r1⟩, ⟨c0, c1⟩, k0, k1⟩ := ok
    have e1 := at_gI (l := M.regs) (i := c) c0 (by omega)
    generalize hp : (gI M.regs c + k) % 4294967296 = p
    have p0 : 0 ≤ p := by omega
    simp [b_law_met, insW, insL, h1, h2, h3, h5, l1, e1, hp, n4, n8, n11, n17]
    refine run_ite (fun c => ?_) (fun c => ?_)
    · simp [c]
      have := (a.mt (l := M.met ++ [.tup [.int (M.at_ - 1), .int p]])).dict (M' := { M with met := M.met ++ [.tup [.int (M.at_ - 1), .int p]], word := (S [102, 97, 117, 108, 116]) }) rfl rfl rfl rfl
      refine q _ _ ⟨rfl, ?_, MF.m4.trans MF.m0⟩
      simp only [stepI, hp, if_pos c]
      exact this
    · have e2 := at_gI (l := M.mem) (i := p) p0 (by omega)
      simp [c, h3, h2, e2, r0, len, r1, n19, n17]
      have := (a.mt (l := M.met ++ [.tup [.int (M.at_ - 1), .int p]])).rg (l := (M.regs.map W.int).set r.toNat (.int (gI M.mem p))) (x := M.regs.set r.toNat (gI M.mem p)) (by simp)
      refine q _ _ ⟨rfl, ?_, MF.m4.trans MF.m2⟩
      simp only [stepI, hp, if_neg c]
      exact this
  · obtain ⟨⟨r0, r1⟩, ⟨c0, c1⟩, k0, k1⟩ := ok
    have e1 := at_gI (l := M.regs) (i := c) c0 (by omega)
    have e3 := at_gI (l := M.regs) (i := r) r0 (by omega)
    generalize hp : (gI M.regs c + k) % 4294967296 = p
    have p0 : 0 ≤ p := by omega
    simp [b_law_met, insW, insL, h1, h2, h3, h5, l1, e1, hp, n4, n8, n11, n17]
    have fl : (M.mem.length : Int) ≤ p ∨ p < g.base → MR (hs (hs h rt (.lst (M.met ++ [.tup [.int (M.at_ - 1), .int p]]))) m (.dct (mD g rm rr rd rt { M with met := M.met, word := (S [102, 97, 117, 108, 116]) }))) g m rm rr rd rt (stepI g M (.store r c k)) := fun c => by
      have := (a.mt (l := M.met ++ [.tup [.int (M.at_ - 1), .int p]])).dict (M' := { M with met := M.met ++ [.tup [.int (M.at_ - 1), .int p]], word := (S [102, 97, 117, 108, 116]) }) rfl rfl rfl rfl
      simp only [stepI, hp, if_pos c]
      exact this
    by_cases c1 : (M.mem.length : Int) ≤ p
    · simp [c1]
      exact q _ _ ⟨rfl, fl (.inl c1), MF.m4.trans MF.m0⟩
    · by_cases c2 : p < g.base
      · simp [c1, c2]
        exact q _ _ ⟨rfl, fl (.inr c2), MF.m4.trans MF.m0⟩
      · have c3 : p < M.mem.length := by omega
        simp [c1, c2, h3, h2, e3, p0, c3, n19, n17]
        have := (a.mt (l := M.met ++ [.tup [.int (M.at_ - 1), .int p]])).mm (l := (M.mem.map W.int).set p.toNat (.int (gI M.regs r))) (x := M.mem.set p.toNat (gI M.regs r)) (by simp)
        refine q _ _ ⟨rfl, ?_, MF.m4.trans MF.m1⟩
        simp only [stepI, hp, if_neg (show ¬ ((M.mem.length : Int) ≤ p ∨ p < g.base) by omega)]
        exact this
theorem c_told {n b : Nat} {i : Ins} (a : MR h g m rm rr rd rt M) (w : MW g b M) (hb : b < 1000000) (ok : InsOk i) (hi : (∃ p r, i = .send p r) ∨ (∃ r p, i = .ask r p) ∨ (∃ r p, i = .take r p) ∨ (∃ r, i = .time r) ∨ i = .rest) :
    Run (prg.call (n + 1) f_law_told [.ref m, insW i] h) fun x h' => x = .non ∧ MR h' g m rm rr rd rt (stepI g M i) ∧ Mod (MF m rm rr rd rt) h h' := by
  refine run_q fun Q q => ?_
  obtain ⟨n1, n2, n3, n4, n5, n6, n7, n8, n9, n10, n11, n12, n13, n14, n15, n16, n17, n18, n19, n20⟩ := a.ne2
  have h1 := a.hm
  have h2 := a.hmm
  have h3 := a.hrr
  have h4 := a.hrd
  have h5 := a.hrt
  have l1 : M.deeds.length < 16777216 := by have := w.deeds; omega
  have len := w.regs
  have gv := w.given
  have ask : ∀ (s : Str) (r : Int) (d : W), isR r → M.given ≠ g.ans.length → MR (hs (hs (hs h m (.dct (mD g rm rr rd rt { M with given := M.given + 1 }))) rr (.lst ((M.regs.map W.int).set r.toNat (.int (gI g.ans M.given))))) rd (.lst (M.deeds ++ [d]))) g m rm rr rd rt
      { M with given := M.given + 1, regs := M.regs.set r.toNat (gI g.ans M.given), deeds := M.deeds ++ [d] } := fun s r d hr c => by
    exact ((a.dict (M' := { M with given := M.given + 1 }) rfl rfl rfl rfl).rg (l := (M.regs.map W.int).set r.toNat (.int (gI g.ans M.given))) (x := M.regs.set r.toNat (gI g.ans M.given)) (by simp)).dd (l := M.deeds ++ [d])
  have opn : MR (hs h m (.dct (mD g rm rr rd rt { M with word := (S [111, 112, 101, 110]) }))) g m rm rr rd rt { M with word := (S [111, 112, 101, 110]) } := a.dict rfl rfl rfl rfl
  rw [u_law_told]
  rcases hi with ⟨p, r, rfl⟩ | ⟨r, p, rfl⟩ | ⟨r, p, rfl⟩ | ⟨r, rfl⟩ | rfl
  · obtain ⟨⟨p0, p1⟩, r0, r1⟩ := ok
    have e1 := at_gI (l := M.regs) (i := r) r0 (by omega)
    simp [b_law_told, insW, insL, h1, h2, h3, h4, h5, l1, e1]
    exact q _ _ ⟨rfl, a.dd, MF.m3⟩
  · obtain ⟨⟨r0, r1⟩, p0, p1⟩ := ok
    simp [b_law_told, insW, insL, h1]
    refine run_ite (fun c => ?_) (fun c => ?_)
    · have c' : M.given = g.ans.length := by omega
      simp [h1]
      refine q _ _ ⟨rfl, ?_, MF.m0⟩
      simp only [stepI, if_pos c']
      exact opn
    · have c' : ¬ M.given = g.ans.length := by omega
      have e1 := at_gI (l := g.ans) (i := (M.given : Int)) (by omega) (by omega)
      simp [h1, e1, h3, h4, r0, r1, len, l1, n2, n3, n6, n7, n12, n18]
      refine q _ _ ⟨rfl, ?_, (MF.m0.trans MF.m2).trans MF.m3⟩
      simp only [stepI, if_neg c']
      exact ask (S [97, 115, 107]) r _ ⟨r0, r1⟩ c'
  · obtain ⟨⟨r0, r1⟩, p0, p1⟩ := ok
    simp [b_law_told, insW, insL, h1]
    refine run_ite (fun c => ?_) (fun c => ?_)
    · have c' : M.given = g.ans.length := by omega
      simp [h1]
      refine q _ _ ⟨rfl, ?_, MF.m0⟩
      simp only [stepI, if_pos c']
      exact opn
    · have c' : ¬ M.given = g.ans.length := by omega
      have e1 := at_gI (l := g.ans) (i := (M.given : Int)) (by omega) (by omega)
      simp [h1, e1, h3, h4, r0, r1, len, l1, n2, n3, n6, n7, n12, n18]
      refine q _ _ ⟨rfl, ?_, (MF.m0.trans MF.m2).trans MF.m3⟩
      simp only [stepI, if_neg c']
      exact ask (S [97, 115, 107]) r _ ⟨r0, r1⟩ c'
  · obtain ⟨r0, r1⟩ := ok
    simp [b_law_told, insW, insL, h1]
    refine run_ite (fun c => ?_) (fun c => ?_)
    · have c' : M.given = g.ans.length := by omega
      simp [h1]
      refine q _ _ ⟨rfl, ?_, MF.m0⟩
      simp only [stepI, if_pos c']
      exact opn
    · have c' : ¬ M.given = g.ans.length := by omega
      have e1 := at_gI (l := g.ans) (i := (M.given : Int)) (by omega) (by omega)
      simp [h1, e1, h3, h4, r0, r1, len, l1, n2, n3, n6, n7, n12, n18]
      refine q _ _ ⟨rfl, ?_, (MF.m0.trans MF.m2).trans MF.m3⟩
      simp only [stepI, if_neg c']
      exact ask (S [97, 115, 107]) r _ ⟨r0, r1⟩ c'
  · simp [b_law_told, insW, insL, h1, h4, l1]
    exact q _ _ ⟨rfl, a.dd, MF.m3⟩
end
end Nw

set_option Elab.async false
set_option linter.all false
set_option maxRecDepth 100000
set_option maxHeartbeats 4000000
/-! The laws' own machine: an instruction; a run. -/
namespace Nw
open PySem PySem.Spec PyProof.Rows L2
section
variable {h : VH} {g : MG} {m rm rr rd rt : Nat} {M : MS}
theorem c_instr {n b : Nat} {i : Ins} (a : MR h g m rm rr rd rt M) (w : MW g b M) (hb : b < 1000000) (ok : InsOk i) (gb : 0 ≤ g.base) :
    Run (prg.call (n + 2) f_law_instruction [.ref m, insW i] h) fun x h' => x = .non ∧ MR h' g m rm rr rd rt (step g M i) ∧ Mod (MF m rm rr rd rt) h h' := by
  refine run_q fun Q q => ?_
  have a1 := a.dict (M' := { M with at_ := M.at_ + 1 }) rfl rfl rfl rfl
  have w1 := w.at
  obtain ⟨n1, n2, n3, n4, n5, n6, n7, n8, n9, n10, n11, n12, n13, n14, n15, n16, n17, n18, n19, n20⟩ := a.ne2
  have h1 := a.hm
  have h3 := a.hrr
  have len := w.regs
  have fin : ∀ {h1 : VH} {l : List W} (x : List Int) (_ : l = x.map W.int) (_ : MR h1 g m rm rr rd rt (stepI g { M with at_ := M.at_ + 1 } i)) (_ : Mod (MF m rm rr rd rt) h h1), x = (stepI g { M with at_ := M.at_ + 1 } i).regs.set 0 0 → Q .non (hs h1 rr (.lst l)) := fun x e a m e2 =>
    q _ _ ⟨rfl, by rw [e2] at e; exact a.rg e, m.trans MF.m2⟩
  rw [u_law_instruction]
  have tl : ∀ {x : W} {h' : VH}, x = .non ∧ MR h' g m rm rr rd rt (stepI g { M with at_ := M.at_ + 1 } i) ∧ Mod (MF m rm rr rd rt) (hs h m (.dct (mD g rm rr rd rt { M with at_ := M.at_ + 1 }))) h' → (stepI g { M with at_ := M.at_ + 1 } i).regs.length = 8 →
      hg h' rr = some (.lst ((stepI g { M with at_ := M.at_ + 1 } i).regs.map W.int)) ∧ Q .non (hs h' rr (.lst (((stepI g { M with at_ := M.at_ + 1 } i).regs.map W.int).set 0 (.int 0)))) := fun ⟨_, a, m⟩ _ =>
    ⟨a.hrr, fin ((stepI g { M with at_ := M.at_ + 1 } i).regs.set 0 0) (by simp) a (MF.m0.trans m) rfl⟩
  cases i with
  | fin s =>
    simp [b_law_instruction, insW, insL, h1, h3, len, n2]
    exact fin (M.regs.set 0 0) (by simp) (a1.dict rfl rfl rfl rfl) (MF.m0.trans MF.m0) rfl
  | set r k =>
    obtain ⟨⟨r0, r1⟩, k0, k1⟩ := ok
    simp [b_law_instruction, insW, insL, h1, h3, r0, r1, len, n2]
    exact fin ((M.regs.set r.toNat k).set 0 0) (by simp) (a1.rg (x := M.regs.set r.toNat k) (by simp)) (MF.m0.trans MF.m2) rfl
  | high r k =>
    obtain ⟨⟨r0, r1⟩, k0, k1⟩ := ok
    have e1 := at_gI (l := M.regs) (i := r) r0 (by omega)
    simp [b_law_instruction, insW, insL, h1, h3, r0, r1, len, n2, e1]
    exact fin ((M.regs.set r.toNat (k * 65536 + gI M.regs r % 65536)).set 0 0) (by simp) (a1.rg (x := M.regs.set r.toNat (k * 65536 + gI M.regs r % 65536)) (by simp)) (MF.m0.trans MF.m2) rfl
  | op s d x y =>
    obtain ⟨hs, ⟨d0, d1⟩, ⟨x0, x1⟩, y0, y1⟩ := ok
    have e1 := at_gI (l := M.regs) (i := x) x0 (by omega)
    have e2 := at_gI (l := M.regs) (i := y) y0 (by omega)
    simp [b_law_instruction, insW, insL, h1, h3, d0, d1, len, n2, e1, e2]
    refine run_bind (c_operate hs (isW_gI w.isW x) (isW_gI w.isW y)) ?_
    rintro _ _ ⟨rfl, rfl⟩
    simp [h3, n2, d0, d1, len]
    exact fin ((M.regs.set d.toNat (opI s (gI M.regs x) (gI M.regs y))).set 0 0) (by simp) (a1.rg (x := M.regs.set d.toNat (opI s (gI M.regs x) (gI M.regs y))) (by simp)) (MF.m0.trans MF.m2) rfl
  | load r c k =>
    simp [b_law_instruction, insW, insL, h1, h3, len, n2]
    refine run_bind (c_met a1 w1 hb ok (.inl ⟨_, _, _, rfl⟩) gb) ?_
    intro x h' z
    obtain ⟨e1, e2⟩ := tl z (by simp only [stepI]; split <;> simp [len])
    have e3 : (stepI g { M with at_ := M.at_ + 1 } (.load r c k)).regs.length = 8 := by simp only [stepI]; split <;> simp [len]
    simp [e1, e3]
    exact e2
  | store r c k =>
    simp [b_law_instruction, insW, insL, h1, h3, len, n2]
    refine run_bind (c_met a1 w1 hb ok (.inr ⟨_, _, _, rfl⟩) gb) ?_
    intro x h' z
    obtain ⟨e1, e2⟩ := tl z (by simp only [stepI]; split <;> simp [len])
    have e3 : (stepI g { M with at_ := M.at_ + 1 } (.store r c k)).regs.length = 8 := by simp only [stepI]; split <;> simp [len]
    simp [e1, e3]
    exact e2
  | go k =>
    simp [b_law_instruction, insW, insL, h1, h3, len, n2]
    exact fin (M.regs.set 0 0) (by simp) (a1.dict (M' := { M with at_ := k }) rfl rfl rfl rfl) (MF.m0.trans MF.m0) rfl
  | unl r k =>
    obtain ⟨⟨r0, r1⟩, k0, k1⟩ := ok
    have e1 := at_gI (l := M.regs) (i := r) r0 (by omega)
    simp [b_law_instruction, insW, insL, h1, h3, len, n2, e1]
    refine run_ite (fun c => ?_) (fun c => ?_)
    · simp [h3, h1, n2, len]
      refine fin (M.regs.set 0 0) (by simp) ?_ (MF.m0.trans MF.m0) ?_
      · simp only [stepI, if_pos c]; exact a1.dict (M' := { M with at_ := k }) rfl rfl rfl rfl
      · simp only [stepI, if_pos c]
    · simp [h3, h1, n2, len]
      refine fin (M.regs.set 0 0) (by simp) ?_ MF.m0 ?_
      · simp only [stepI, if_neg c]; exact a1
      · simp only [stepI, if_neg c]
  | call r k =>
    obtain ⟨⟨r0, r1⟩, k0, k1⟩ := ok
    simp [b_law_instruction, insW, insL, h1, h3, r0, r1, len, n2, n6]
    exact fin ((M.regs.set r.toNat (M.at_ + 1)).set 0 0) (by simp) ((a1.rg (x := M.regs.set r.toNat (M.at_ + 1)) (by simp)).dict (M' := { M with at_ := k, regs := M.regs.set r.toNat (M.at_ + 1) }) rfl rfl rfl rfl) ((MF.m0.trans MF.m2).trans MF.m0) rfl
  | back r =>
    obtain ⟨r0, r1⟩ := ok
    have e1 := at_gI (l := M.regs) (i := r) r0 (by omega)
    simp [b_law_instruction, insW, insL, h1, h3, len, n2, e1]
    exact fin (M.regs.set 0 0) (by simp) (a1.dict (M' := { M with at_ := gI M.regs r }) rfl rfl rfl rfl) (MF.m0.trans MF.m0) rfl
  | send p r =>
    simp [b_law_instruction, insW, insL, h1, h3, len, n2]
    refine run_bind (c_told a1 w1 hb ok (by simp)) ?_
    intro x h' z
    have e3 : (stepI g { M with at_ := M.at_ + 1 } (.send p r)).regs.length = 8 := by simp [stepI, len]
    obtain ⟨e1, e2⟩ := tl z e3
    simp [e1, e3]
    exact e2
  | ask r p =>
    simp [b_law_instruction, insW, insL, h1, h3, len, n2]
    refine run_bind (c_told a1 w1 hb ok (by simp)) ?_
    intro x h' z
    have e3 : (stepI g { M with at_ := M.at_ + 1 } (.ask r p)).regs.length = 8 := by simp only [stepI]; split <;> simp [len]
    obtain ⟨e1, e2⟩ := tl z e3
    simp [e1, e3]
    exact e2
  | take r p =>
    simp [b_law_instruction, insW, insL, h1, h3, len, n2]
    refine run_bind (c_told a1 w1 hb ok (by simp)) ?_
    intro x h' z
    have e3 : (stepI g { M with at_ := M.at_ + 1 } (.take r p)).regs.length = 8 := by simp only [stepI]; split <;> simp [len]
    obtain ⟨e1, e2⟩ := tl z e3
    simp [e1, e3]
    exact e2
  | time r =>
    simp [b_law_instruction, insW, insL, h1, h3, len, n2]
    refine run_bind (c_told a1 w1 hb ok (by simp)) ?_
    intro x h' z
    have e3 : (stepI g { M with at_ := M.at_ + 1 } (.time r)).regs.length = 8 := by simp only [stepI]; split <;> simp [len]
    obtain ⟨e1, e2⟩ := tl z e3
    simp [e1, e3]
    exact e2
  | rest =>
    simp [b_law_instruction, insW, insL, h1, h3, len, n2]
    refine run_bind (c_told a1 w1 hb ok (by simp)) ?_
    intro x h' z
    have e3 : (stepI g { M with at_ := M.at_ + 1 } .rest).regs.length = 8 := by simp [stepI, len]
    obtain ⟨e1, e2⟩ := tl z e3
    simp [e1, e3]
    exact e2
end
end Nw

set_option Elab.async false
set_option linter.all false
set_option maxRecDepth 100000
set_option maxHeartbeats 4000000
/-! The laws' own machine: laying it. -/
namespace Nw
open PySem PySem.Spec PyProof.Rows L2
theorem c_signs {n : Nat} {h : VH} : Run (prg.call (n + 1) f_law_signs [] h) fun r h' => r = .tup (signs.map W.str) ∧ h' = h := by
  rw [u_law_signs]
  simp [b_law_signs]
theorem c_number {n : Nat} {h : VH} (i : Ins) : Run (prg.call (n + 1) f_law_number [.str (kindS i)] h) fun r h' => r = .int (kindN i) ∧ Mod no h h' := by
  refine run_q fun Q q => ?_
  rw [u_law_number]
  have m : ∀ o, Mod no h (hn h o) := fun o => Mod.new
  cases i <;> (simp [b_law_number, kindS, List.findIdx?_cons]; exact q _ _ ⟨rfl, m _⟩)
theorem c_code_word {n : Nat} {h : VH} {i : Ins} (ok : InsOk i) : Run (prg.call (n + 2) f_law_code_word [insW i] h) fun r h' => r = .int (codeN i) ∧ Mod no h h' := by
  refine run_q fun Q q => ?_
  rw [u_law_code_word]
  have num := fun (h : VH) => c_number (n := n) (h := h) i
  cases i with
  | op s d a b =>
    simp [b_law_code_word, insW, insL]
    refine run_bind (num h) ?_
    rintro _ h1 ⟨rfl, m⟩
    simp
    refine run_bind (c_signs) ?_
    rintro _ h2 ⟨rfl, rfl⟩
    simp [sign_ix ok.1]
    refine q _ _ ⟨congrArg W.int ?_, m.trans Mod.new⟩
    simp only [codeN, kindN] <;> omega
  | _ =>
    simp [b_law_code_word, insW, insL]
    refine run_bind (num h) ?_
    rintro _ h1 ⟨rfl, m⟩
    simp
    refine q _ _ ⟨congrArg W.int ?_, m⟩
    simp only [codeN, kindN] <;> omega
end Nw

set_option Elab.async false
set_option linter.all false
set_option maxRecDepth 100000
set_option maxHeartbeats 4000000
/-! The laws' own machine: laying it; a run. -/
namespace Nw
open PySem PySem.Spec PyProof.Rows L2
theorem c_machine {n : Nat} {h : VH} {code : List Ins} {first ans : List Int} (ok : GOk code first) :
    Run (prg.call (n + 3) f_law_machine [guestW code first, .tup (ans.map W.int)] h) fun r h' => ∃ m rm rr rd rt, r = .ref m ∧ MR h' (gOf code ans) m rm rr rd rt (M0 code first) ∧ FR h m rm rr rd rt ∧ Mod no h h' := by
  refine run_q fun Q q => ?_
  rw [u_law_machine]
  have l1 := ok.len
  have l2 := ok.size
  have u1 := up16_le code.length
  have u2 := up16_le (memA code first).length
  have ln : (memA code first).length = up16 code.length + first.length := by simp [memA]; omega
  simp [b_law_machine, guestW]
  refine run_bind (lc_mapx code insW (fun i => .int (codeN i)) rfl (by omega) (fun i h1 hi m => ?_)) ?_
  · simp [e_law_machine_1]
    refine run_bind (c_code_word (ok.ins i hi)) ?_
    rintro _ h' ⟨rfl, m⟩
    simp [m]
  rintro _ h1 ⟨rfl, m1⟩
  have c1 : ((up16 code.length : Nat) : Int) - (code.length : Int) < 1073741824 := by omega
  have c2 : -1073741824 < ((up16 code.length : Nat) : Int) - (code.length : Int) := by omega
  have c3 : (((up16 code.length : Nat) : Int) - (code.length : Int)).toNat = up16 code.length - code.length := by omega
  have c4 : code.length ≤ 16777216 := by omega
  have c5 : up16 code.length - code.length ≤ 16777216 := by omega
  have c6 : code.length + (up16 code.length - code.length) ≤ 16777216 := by omega
  have c7 : code.length + (up16 code.length - code.length) + first.length ≤ 16777216 := by omega
  simp [up16_int, c1, c2, c3, c4, c5, c6, c7]
  have e9 : ((code.length : Int) + (((up16 code.length - code.length : Nat) : Int) + (first.length : Int)) + 15) / 16 * 16 - ((code.length : Int) + (((up16 code.length - code.length : Nat) : Int) + (first.length : Int))) = ((up16 (memA code first).length - (memA code first).length : Nat) : Int) := by
    have : up16 (memA code first).length = ((memA code first).length + 15) / 16 * 16 := rfl
    omega
  have d1 : ((up16 (memA code first).length - (memA code first).length : Nat) : Int) < 1073741824 := by omega
  have d2 : -1073741824 < ((up16 (memA code first).length - (memA code first).length : Nat) : Int) := by omega
  have d3 : up16 (memA code first).length - (memA code first).length ≤ 16777216 := by omega
  have d5 : ((up16 (memA code first).length - (memA code first).length : Nat) : Int) ≤ 16777216 := by omega
  have d4 : code.length + (up16 code.length - code.length + first.length) + (up16 (memA code first).length - (memA code first).length) ≤ 16777216 := by omega
  rw [e9]
  simp [d1, d2, d3, d4, d5]
  refine q _ _ ⟨nx h1 13, nx h1 8, nx h1 10, nx h1 11, nx h1 12, rfl, ⟨?_, ?_, ?_, ?_, ?_, by simp⟩, ?_, ?_⟩
  · simp [mD, gOf, M0, codeW]
  · simp [M0, memOf, memA]
  · simp [M0]
  · simp [M0]
  · simp [M0]
  · exact ⟨nx_le m1.1 _, nx_le m1.1 _, nx_le m1.1 _, nx_le m1.1 _, nx_le m1.1 _⟩
  · exact m1.trans (((((((((((((Mod.new.trans Mod.new).trans Mod.new).trans Mod.new).trans Mod.new).trans Mod.new).trans Mod.new).trans Mod.new).trans Mod.new).trans Mod.new).trans Mod.new).trans Mod.new).trans Mod.new).trans Mod.new)
end Nw

set_option Elab.async false
set_option linter.all false
set_option maxRecDepth 100000
set_option maxHeartbeats 4000000
/-! Plans: guests that are drawn. -/
namespace Nw
open PySem PySem.Spec PyProof.Rows L2
/-- a row as it is drawn: places below 0 are still to be laid -/
def PreOk : Ins → Prop
  | .load r b n => isR r ∧ isR b ∧ -200 ≤ n ∧ n < 65536
  | .store r b n => isR r ∧ isR b ∧ -200 ≤ n ∧ n < 65536
  | i => InsOk i
def ModWC (w c : Nat) : Nat → Prop := fun q => q = w ∨ q = c
structure Cd (h0 h : VH) (w d c lo b : Nat) : Prop where
  wok : WOk h w d
  cw : c ≠ w
  cd : c ≠ d
  code : ∃ L : List Ins, hg h c = some (.lst (L.map insW)) ∧ (∀ i ∈ L, PreOk i) ∧ lo ≤ L.length ∧ L.length ≤ b
  m : Mod (ModWC w c) h0 h
theorem Cd.next {h0 h h' : VH} {w d c lo b : Nat} (a : Cd h0 h w d c lo b) (wk : WOk h' w d) (m : Mod (· = w) h h') : Cd h0 h' w d c lo b := by
  obtain ⟨L, l1, l2, l3⟩ := a.code
  exact ⟨wk, a.cw, a.cd, ⟨L, m.get l1 a.cw, l2, l3⟩, a.m.trans (m.mono fun q _ z => .inl z)⟩
theorem Cd.no {h0 h h' : VH} {w d c lo b : Nat} (a : Cd h0 h w d c lo b) (m : Mod no h h') : Cd h0 h' w d c lo b := by
  obtain ⟨L, l1, l2, l3⟩ := a.code
  exact ⟨a.wok.mod m (fun z => z) (fun z => z), a.cw, a.cd, ⟨L, m.get l1 (fun z => z), l2, l3⟩, a.m.trans (m.mono fun q _ z => z.elim)⟩
theorem Cd.le {h0 h : VH} {w d c lo b lo' b' : Nat} (a : Cd h0 h w d c lo b) (l : b ≤ b') (l' : lo' ≤ lo := by omega) : Cd h0 h w d c lo' b' := by
  obtain ⟨L, l1, l2, l3⟩ := a.code
  exact ⟨a.wok, a.cw, a.cd, ⟨L, l1, l2, by omega, by omega⟩, a.m⟩
/-- the list becomes another one -/
theorem Cd.put {h0 h : VH} {w d c lo b lo' b' : Nat} {L : List Ins} {xs : List W} (a : Cd h0 h w d c lo b) (e : xs = L.map insW) (l2 : ∀ i ∈ L, PreOk i) (l3 : lo' ≤ L.length ∧ L.length ≤ b') : Cd h0 (hs h c (.lst xs)) w d c lo' b' := by
  obtain ⟨L0, l1, _⟩ := a.code
  have m : Mod (· = c) h (hs h c (.lst xs)) := Mod.set rfl
  exact ⟨a.wok.mod m (fun z => a.cw z.symm) (fun z => a.cd z.symm), a.cw, a.cd, ⟨L, by simp [l1, e], l2, l3⟩, a.m.trans (m.mono fun q _ z => .inr z)⟩
/-- rows are put behind it -/
theorem Cd.push {h0 h : VH} {w d c lo b lo' b' : Nat} {L : List Ins} {xs : List W} (is : List Ins) (a : Cd h0 h w d c lo b) (l2 : ∀ i ∈ L, PreOk i) (l3 : lo ≤ L.length ∧ L.length ≤ b) (e : xs = is.map insW) (ok : ∀ i ∈ is, PreOk i) (hb : b + is.length ≤ b' ∧ lo' ≤ lo + is.length) : Cd h0 (hs h c (.lst (L.map insW ++ xs))) w d c lo' b' :=
  a.put (L := L ++ is) (by rw [e, List.map_append]) (fun i hi => (List.mem_append.mp hi).elim (l2 i) (ok i)) (by rw [List.length_append]; omega)
/-- as it stands -/
theorem Cd.here {h0 h : VH} {w d c lo b : Nat} {L : List Ins} (a : Cd h0 h w d c lo b) (l1 : hg h c = some (.lst (L.map insW))) (l2 : ∀ i ∈ L, PreOk i) : Cd h0 h w d c L.length L.length := ⟨a.wok, a.cw, a.cd, ⟨L, l1, l2, Nat.le_refl _, Nat.le_refl _⟩, a.m⟩
theorem ls_row {x : W} (hx : x = .str (S [108, 111, 97, 100]) ∨ x = .str (S [115, 116, 111, 114, 101])) {r b n : Int} (hr : isR r) (hb : isR b) (h1 : -200 ≤ n) (h2 : n < 65536) : ∃ i, W.tup [x, .int r, .int b, .int n] = insW i ∧ PreOk i := by
  rcases hx with rfl | rfl
  · exact ⟨.load r b n, rfl, hr, hb, h1, h2⟩
  · exact ⟨.store r b n, rfl, hr, hb, h1, h2⟩
section
variable {n : Nat} {h0 h : VH} {w d c lo b : Nat}
theorem Cd.cnext {many : Int} (a : Cd h0 h w d c lo b) (hm : 0 < many) : Run (prg.call (n + 1) f_law_next [.ref w, .int many] h) fun x h' => ∃ v : Int, x = .int v ∧ (0 ≤ v ∧ v < many) ∧ Cd h0 h' w d c lo b :=
  (c_next (n := n) a.wok hm).imp fun x h' ⟨v, p1, p2, p3, p4⟩ => ⟨v, p1, p2, a.next p3 p4⟩
theorem Cd.cpick {l : List W} (a : Cd h0 h w d c lo b) (ne : l ≠ []) : Run (prg.call (n + 2) f_law_pick [.ref w, .ref (nx h 0)] (hn h (.lst l))) fun x h' => x ∈ l ∧ Cd h0 h' w d c lo b := by
  have hw : nx h 0 ≠ w := by have := a.wok.lt.1; unfold nx; omega
  refine (c_pick (n := n) (r := nx h 0) a.wok.new hg_new' ne hw).imp ?_
  rintro x h' ⟨p1, p2, p3⟩
  exact ⟨p1, (a.no Mod.new).next p2 p3⟩
theorem Cd.cpick' {l : List W} {r : Nat} (a : Cd h0 h w d c lo b) (ne : l ≠ []) (hr : r = nx h 0) : Run (prg.call (n + 2) f_law_pick [.ref w, .ref r] (hn h (.lst l))) fun x h' => x ∈ l ∧ Cd h0 h' w d c lo b := by
  subst hr
  exact a.cpick ne
theorem Cd.cpickT {l : List W} (a : Cd h0 h w d c lo b) (ne : l ≠ []) : Run (prg.call (n + 2) f_law_pick [.ref w, .tup l] h) fun x h' => x ∈ l ∧ Cd h0 h' w d c lo b := by
  refine (c_pickT (n := n) a.wok ne).imp ?_
  rintro x h' ⟨p1, p2, p3⟩
  exact ⟨p1, a.next p2 p3⟩
theorem c_reach {size : Nat} (a : Cd h0 h w d c lo b) (hb : b < 1000) (hz : size ≤ 100) :
    Run (prg.call (n + 3) f_law_reach [.ref w, .ref c, .int size] h) fun r h' => r = .non ∧ Cd h0 h' w d c lo (b + 2) := by
  refine run_q fun Q q => ?_
  rw [u_law_reach]
  simp [b_law_reach]
  refine run_bind (a.cnext (by omega)) ?_
  rintro _ h1 ⟨r, rfl, ⟨r0, r1⟩, a1⟩
  simp
  refine run_bind (a1.cnext (by omega)) ?_
  rintro _ h2 ⟨t, rfl, ⟨t0, t1⟩, a2⟩
  simp
  refine run_bind (a2.cpick (by simp)) ?_
  rintro kind h3 ⟨hk, a3⟩
  have hk : kind = .str (S [108, 111, 97, 100]) ∨ kind = .str (S [115, 116, 111, 114, 101]) := by
    simp at hk; rcases hk with z | z
    · exact .inl z
    · exact .inr z
  simp
  refine run_ite (fun c0 => ?_) (fun c0 => ?_)
  · refine run_bind (a3.cpick (by simp)) ?_
    rintro k2 h4 ⟨hk2, a4⟩
    have hk2 : k2 = .str (S [108, 111, 97, 100]) ∨ k2 = .str (S [115, 116, 111, 114, 101]) := by
      simp at hk2; rcases hk2 with z | z
      · exact .inl z
      · exact .inr z
    simp
    refine run_bind (a4.cpick (by simp)) ?_
    rintro z h5 ⟨hz5, a5⟩
    obtain ⟨zb, rfl, hzb⟩ : ∃ zb : Int, z = .int zb ∧ isR zb := by
      simp at hz5; rcases hz5 with z | z
      · exact ⟨0, z, by constructor <;> omega⟩
      · exact ⟨3, z, by constructor <;> omega⟩
    simp
    refine run_bind (a5.cnext (by omega)) ?_
    rintro _ h6 ⟨v, rfl, ⟨v0, v1⟩, a6⟩
    obtain ⟨L3, l31, _⟩ := a3.code
    obtain ⟨L, l1, l2, l3⟩ := a6.code
    have ll : L.length < 16777216 := by omega
    obtain ⟨i, ei, oi⟩ := ls_row hk2 (r := r) (b := zb) (n := v) ⟨r0, r1⟩ hzb (by omega) (by omega)
    simp [l31, l1, ll, ei]
    exact q _ _ ⟨rfl, a6.push [i] l2 l3 rfl (by simpa using oi) (by simp <;> omega)⟩
  · refine run_ite (fun c1 => ?_) (fun c1 => ?_)
    · refine run_bind (a3.cnext (by omega)) ?_
      rintro _ h4 ⟨y, rfl, ⟨y0, y1⟩, a4⟩
      simp
      refine run_ite (fun c2 => ?_) (fun c2 => ?_)
      · refine run_bind (a4.cnext (by omega)) ?_
        rintro _ h5 ⟨v, rfl, ⟨v0, v1⟩, a5⟩
        obtain ⟨L3, l31, _⟩ := a4.code
        obtain ⟨L, l1, l2, l3⟩ := a5.code
        have ll : L.length < 16777216 := by omega
        obtain ⟨i, ei, oi⟩ := ls_row hk (r := r) (b := 0) (n := -1 - (size : Int) - v) ⟨r0, r1⟩ (by constructor <;> omega) (by omega) (by omega)
        simp [l31, l1, ll, ei]
        exact q _ _ ⟨rfl, a5.push [i] l2 l3 rfl (by simpa using oi) (by simp <;> omega)⟩
      · refine run_ite (fun c3 => ?_) (fun c3 => absurd (by omega) c3)
        refine run_bind (a4.cnext (by omega)) ?_
        rintro _ g1 ⟨x, rfl, ⟨x0, x1⟩, b1⟩
        simp
        generalize hlim : (if 1 < (size : Int) / 2 then (size : Int) / 2 else 1) = lim
        have lm : 1 ≤ lim ∧ lim ≤ 100 := by rw [← hlim]; split <;> omega
        refine run_bind (b1.cnext (by omega)) ?_
        rintro _ g2 ⟨y2, rfl, ⟨y20, y21⟩, b2⟩
        obtain ⟨L1, l11, _⟩ := b1.code
        obtain ⟨L2, l21, l22, l23⟩ := b2.code
        have ll2 : L2.length < 16777216 := by omega
        simp [l11, l21, ll2, hlim]
        have b3 := b2.push (lo' := lo) (b' := b + 1) (xs := [.tup [.str (S [115, 101, 116]), .int (1 + x), .int y2]]) [.set (1 + x) y2] l22 l23 rfl (by simp only [List.mem_singleton, forall_eq]; exact ⟨⟨by omega, by omega⟩, by omega, by omega⟩) (by simp <;> omega)
        have b3c : hg (hs g2 c (.lst (L2.map insW ++ [.tup [.str (S [115, 101, 116]), .int (1 + x), .int y2]]))) c = some (.lst (L2.map insW ++ [.tup [.str (S [115, 101, 116]), .int (1 + x), .int y2]])) := by simp [l21]
        refine run_bind (b3.cnext (by omega)) ?_
        rintro _ g4 ⟨y4, rfl, ⟨y40, y41⟩, b4⟩
        obtain ⟨L4, l41, l42, l43⟩ := b4.code
        have ll4 : L4.length < 16777216 := by omega
        obtain ⟨i, ei, oi⟩ := ls_row hk (r := r) (b := 1 + x) (n := -1 - y4) ⟨r0, r1⟩ (by constructor <;> omega) (by omega) (by omega)
        simp [b3c, l41, ll4, ei]
        exact q _ _ ⟨rfl, b4.push [i] l42 l43 rfl (by simpa using oi) (by simp <;> omega)⟩
    · refine run_ite (fun c3 => absurd c3 c1) (fun _ => ?_)
      refine run_ite (fun c3 => ?_) (fun c3 => ?_)
      · skip
        refine run_bind (a3.cnext (by omega)) ?_
        rintro _ g1 ⟨x, rfl, ⟨x0, x1⟩, b1⟩
        simp
        generalize hlim : (if 1 < (size : Int) / 2 then (size : Int) / 2 else 1) = lim
        have lm : 1 ≤ lim ∧ lim ≤ 100 := by rw [← hlim]; split <;> omega
        refine run_bind (b1.cnext (by omega)) ?_
        rintro _ g2 ⟨y2, rfl, ⟨y20, y21⟩, b2⟩
        obtain ⟨L1, l11, _⟩ := b1.code
        obtain ⟨L2, l21, l22, l23⟩ := b2.code
        have ll2 : L2.length < 16777216 := by omega
        simp [l11, l21, ll2, hlim]
        have b3 := b2.push (lo' := lo) (b' := b + 1) (xs := [.tup [.str (S [115, 101, 116]), .int (1 + x), .int y2]]) [.set (1 + x) y2] l22 l23 rfl (by simp only [List.mem_singleton, forall_eq]; exact ⟨⟨by omega, by omega⟩, by omega, by omega⟩) (by simp <;> omega)
        have b3c : hg (hs g2 c (.lst (L2.map insW ++ [.tup [.str (S [115, 101, 116]), .int (1 + x), .int y2]]))) c = some (.lst (L2.map insW ++ [.tup [.str (S [115, 101, 116]), .int (1 + x), .int y2]])) := by simp [l21]
        refine run_bind (b3.cnext (by omega)) ?_
        rintro _ g4 ⟨y4, rfl, ⟨y40, y41⟩, b4⟩
        obtain ⟨L4, l41, l42, l43⟩ := b4.code
        have ll4 : L4.length < 16777216 := by omega
        obtain ⟨i, ei, oi⟩ := ls_row hk (r := r) (b := 1 + x) (n := -1 - y4) ⟨r0, r1⟩ (by constructor <;> omega) (by omega) (by omega)
        simp [b3c, l41, ll4, ei]
        exact q _ _ ⟨rfl, b4.push [i] l42 l43 rfl (by simpa using oi) (by simp <;> omega)⟩
      · refine run_ite (fun c4 => ?_) (fun c4 => ?_)
        · refine run_bind (a3.cnext (by omega)) ?_
          rintro _ h5 ⟨v, rfl, ⟨v0, v1⟩, a5⟩
          obtain ⟨L3, l31, _⟩ := a3.code
          obtain ⟨L, l1, l2, l3⟩ := a5.code
          have ll : L.length < 16777216 := by omega
          obtain ⟨i, ei, oi⟩ := ls_row hk (r := r) (b := 0) (n := -1 - v) ⟨r0, r1⟩ (by constructor <;> omega) (by omega) (by omega)
          simp [l31, l1, ll, ei]
          exact q _ _ ⟨rfl, a5.push [i] l2 l3 rfl (by simpa using oi) (by simp <;> omega)⟩
        · simp
          exact q _ _ ⟨rfl, a3.le (by omega)⟩
end
end Nw

set_option Elab.async false
set_option linter.all false
set_option maxRecDepth 100000
set_option maxHeartbeats 400000
/-! Plans: a piece of a guest's code. -/
namespace Nw
open PySem PySem.Spec PyProof.Rows L2
section
variable {n : Nat} {h0 h : VH} {w d c lo b : Nat}
theorem pre_ins {i : Ins} (h : InsOk i) : PreOk i := by
  cases i <;> first | exact h | (obtain ⟨h1, h2, h3, h4⟩ := h; exact ⟨h1, h2, by omega, by omega⟩)
/-- a written goal in the list -/
theorem Cd.goal {L : List Ins} {k : Nat} {r : Int} {m : Int} {lo' b' : Nat} (a : Cd h0 h w d c lo b) (l2 : ∀ i ∈ L, PreOk i) (l3 : lo' ≤ L.length ∧ L.length ≤ b') (hr : isR r) (m0 : 0 ≤ m) (m1 : m < 65536) : Cd h0 (hs h c (.lst ((L.map insW).set k (.tup [.str (S [117, 110, 108, 101, 115, 115]), .int r, .int m])))) w d c lo' b' :=
  a.put (L := L.set k (.unl r m)) (by rw [List.map_set]; rfl) (fun i hi => (List.mem_or_eq_of_mem_set hi).elim (l2 i) fun e => by rw [e]; exact ⟨hr, m0, m1⟩) (by simpa using l3)
theorem c_piece {size : Nat} (a : Cd h0 h w d c lo b) (hb : b < 800) (hz : size ≤ 100) :
    Run (prg.call (n + 4) f_law_piece [.ref w, .ref c, .int size] h) fun r h' => r = .non ∧ Cd h0 h' w d c lo (b + 20) := by
  refine run_q fun Q q => ?_
  rw [u_law_piece]
  simp [b_law_piece]
  refine run_bind (a.cnext (by omega)) ?_
  rintro _ h1 ⟨r, rfl, ⟨r0, r1⟩, a1⟩
  simp
  refine run_bind (a1.cnext (by omega)) ?_
  rintro _ h2 ⟨x, rfl, ⟨x0, x1⟩, a2⟩
  simp
  refine run_bind (a2.cnext (by omega)) ?_
  rintro _ h3 ⟨y, rfl, ⟨y0, y1⟩, a3⟩
  simp
  refine run_bind (a3.cnext (by omega)) ?_
  rintro _ h4 ⟨t, rfl, ⟨t0, t1⟩, a4⟩
  simp
  refine run_bind (a4.cpick (by simp)) ?_
  rintro p h5 ⟨hp, a5⟩
  obtain ⟨p, rfl, hpr⟩ : ∃ v : Int, p = .int v ∧ isR v := by
    simp at hp; rcases hp with z | z | z | z
    · exact ⟨0, z, by constructor <;> omega⟩
    · exact ⟨1, z, by constructor <;> omega⟩
    · exact ⟨2, z, by constructor <;> omega⟩
    · exact ⟨7, z, by constructor <;> omega⟩
  have hr : isR r := ⟨r0, r1⟩
  have hx : isR x := ⟨x0, x1⟩
  have hy : isR y := ⟨y0, y1⟩
  obtain ⟨L5, l5, p5, n5⟩ := a5.code
  have z5 : L5.length < 16777216 := by omega
  simp
  refine run_ite (fun c0 => ?_) (fun c0 => ?_)
  · -- a set
    refine run_bind (a5.cnext (by omega)) ?_
    rintro _ h6 ⟨v, rfl, ⟨v0, v1⟩, a6⟩
    obtain ⟨L6, l6, p6, n6⟩ := a6.code
    have z6 : L6.length < 16777216 := by omega
    simp [l5, l6, z6]
    exact q _ _ ⟨rfl, a6.push [.set r v] p6 n6 rfl (by simp only [List.mem_singleton, forall_eq]; exact ⟨hr, by omega, by omega⟩) (by simp <;> omega)⟩
  refine run_ite (fun c1 => ?_) (fun c1 => ?_)
  · -- a high or an op
    refine run_bind (a5.cnext (by omega)) ?_
    rintro _ h6 ⟨v, rfl, ⟨v0, v1⟩, a6⟩
    simp
    refine run_bind (c_signs) ?_
    rintro _ _ ⟨rfl, rfl⟩
    simp
    refine run_bind (a6.cpickT (l := signs.map W.str) (by simp)) ?_
    rintro s h7 ⟨hs, a7⟩
    obtain ⟨s, hsg, rfl⟩ := List.mem_map.mp hs
    simp
    refine run_bind (a7.cpick (by simp)) ?_
    rintro k h8 ⟨hk, a8⟩
    obtain ⟨L8, l8, p8, n8⟩ := a8.code
    have z8 : L8.length < 16777216 := by omega
    simp [l5, l8, z8]
    simp at hk
    rcases hk with rfl | rfl
    · exact q _ _ ⟨rfl, a8.push [.high r v] p8 n8 rfl (by simp only [List.mem_singleton, forall_eq]; exact ⟨hr, by omega, by omega⟩) (by simp <;> omega)⟩
    · exact q _ _ ⟨rfl, a8.push [.op s r x y] p8 n8 rfl (by simp only [List.mem_singleton, forall_eq]; exact ⟨hsg, hr, hx, hy⟩) (by simp <;> omega)⟩
  refine run_ite (fun c2 => ?_) (fun c2 => ?_)
  · -- a reach
    refine run_bind (c_reach a5 (by omega) hz) ?_
    rintro _ h6 ⟨rfl, a6⟩
    simp
    exact q _ _ ⟨rfl, a6.le (by omega)⟩
  refine run_ite (fun c3 => ?_) (fun c3 => ?_)
  · -- a send
    refine run_bind (a5.cnext (by omega)) ?_
    rintro _ h6 ⟨v, rfl, ⟨v0, v1⟩, a6⟩
    obtain ⟨L6, l6, p6, n6⟩ := a6.code
    have z6 : L6.length < 16777216 := by omega
    have z7 : L6.length + 1 < 16777216 := by omega
    have z8 : L6.length + 2 < 16777216 := by omega
    simp [l5, l6, z6, z7, z8, hs_hs]
    exact q _ _ ⟨rfl, a6.push [.set x (1 + v), .op (S [43]) r r x, .send p r] p6 n6 rfl (by
      simp only [List.mem_cons, List.not_mem_nil, or_false, forall_eq_or_imp, forall_eq]
      exact ⟨⟨hx, by omega, by omega⟩, ⟨by simp [signs], hr, hr, hx⟩, hpr, hr⟩) (by simp <;> omega)⟩
  refine run_ite (fun c4 => ?_) (fun c4 => ?_)
  · -- an answer, or a rest
    have e : ∃ i, atW [.tup [.str (S [97, 115, 107]), .int r, .int p], .tup [.str (S [116, 97, 107, 101]), .int r, .int p], .tup [.str (S [116, 105, 109, 101]), .int r], .tup [.str (S [114, 101, 115, 116])]] (t - 10) = some (insW i) ∧ PreOk i := by
      have : t = 10 ∨ t = 11 ∨ t = 12 ∨ t = 13 := by omega
      rcases this with rfl | rfl | rfl | rfl
      · exact ⟨.ask r p, rfl, hr, hpr⟩
      · exact ⟨.take r p, rfl, hr, hpr⟩
      · exact ⟨.time r, rfl, hr⟩
      · exact ⟨.rest, rfl, trivial⟩
    obtain ⟨i, e, oi⟩ := e
    simp [l5, z5, e]
    have a6 : Cd h0 (hn h5 (.lst [.tup [.str (S [97, 115, 107]), .int r, .int p], .tup [.str (S [116, 97, 107, 101]), .int r, .int p], .tup [.str (S [116, 105, 109, 101]), .int r], .tup [.str (S [114, 101, 115, 116])]])) w d c lo b := a5.no Mod.new
    exact q _ _ ⟨rfl, a6.push [i] p5 n5 rfl (by simpa using oi) (by simp <;> omega)⟩
  refine run_ite (fun c5 => ?_) (fun c5 => ?_)
  · -- a branch
    simp [l5, z5]
    have a6 : Cd h0 (hs h5 c (.lst (L5.map insW ++ [.tup [.str (S [114, 101, 115, 116])]]))) w d c (L5.length + 1) (L5.length + 1) := (a5.here l5 p5).push [.rest] p5 ⟨Nat.le_refl _, Nat.le_refl _⟩ rfl (by simp only [List.mem_singleton, forall_eq]; trivial) (by simp)
    refine run_bind (c_reach a6 (by omega) hz) ?_
    rintro _ h7 ⟨rfl, a7⟩
    obtain ⟨L7, l7, p7, n7⟩ := a7.code
    have z7 : L5.length < L7.length := by omega
    simp [l7, z7]
    exact q _ _ ⟨rfl, (a7.goal p7 n7 hr (by omega) (by omega)).le (by omega)⟩
  refine run_ite (fun c6 => ?_) (fun c6 => ?_)
  · -- a loop
    refine run_bind (a5.cnext (by omega)) ?_
    rintro _ h6 ⟨v, rfl, ⟨v0, v1⟩, a6⟩
    obtain ⟨L6, l6, p6, n6⟩ := a6.code
    have z6 : L6.length < 16777216 := by omega
    have z7 : L6.length + 1 < 16777216 := by omega
    have z8 : L6.length + 2 < 16777216 := by omega
    simp [l5, l6, z6, z7, z8, hs_hs]
    have a7 := (a6.here l6 p6).push (lo' := L6.length + 3) (b' := L6.length + 3) [.set 5 (1 + v), .set 6 1, .rest] p6 ⟨Nat.le_refl _, Nat.le_refl _⟩ rfl (by
      simp only [List.mem_cons, List.not_mem_nil, or_false, forall_eq_or_imp, forall_eq]
      exact ⟨⟨by constructor <;> omega, by omega, by omega⟩, ⟨by constructor <;> omega, by constructor <;> omega⟩, trivial⟩) (by simp)
    refine run_bind (c_reach a7 (by omega) hz) ?_
    rintro _ h8 ⟨rfl, a8⟩
    obtain ⟨L8, l8, p8, n8⟩ := a8.code
    have y1 : L8.length < 16777216 := by omega
    have y2 : L8.length + 1 < 16777216 := by omega
    have y3 : L6.length + 2 < L8.length + 2 := by omega
    have y4 : (0 : Int) ≤ (L6.length : Int) + 2 := by omega
    have y5 : L6.length < L8.length := by omega
    have y6 : ((L6.length : Int) + 2).toNat = L6.length + 2 := by omega
    simp [l8, y1, y2, y3, hs_hs, y4, y5, y6]
    have ok9 : ∀ i ∈ L8 ++ [.op (S [45]) 5 5 6, .go (L6.length + 2)], PreOk i := fun i hi => by
      rcases List.mem_append.mp hi with z | z
      · exact p8 i z
      · simp only [List.mem_cons, List.not_mem_nil, or_false] at z
        rcases z with rfl | rfl
        · exact ⟨by simp [signs], by constructor <;> omega, by constructor <;> omega, by constructor <;> omega⟩
        · exact ⟨by omega, by omega⟩
    have e9 : L8.map insW ++ [W.tup [.str (S [111, 112]), .str (S [45]), .int 5, .int 5, .int 6], .tup [.str (S [103, 111]), .int ((L6.length : Int) + 2)]] = (L8 ++ ([Ins.op (S [45]) 5 5 6, Ins.go (L6.length + 2)] : List Ins)).map insW := by simp [insW, insL]
    rw [e9]
    exact q _ _ ⟨rfl, a8.goal ok9 (by simp; omega) (by constructor <;> omega) (by omega) (by omega)⟩
  refine run_ite (fun c7 => ?_) (fun c7 => ?_)
  · -- ops
    refine run_bind (a5.cnext (by omega)) ?_
    rintro _ h6 ⟨v, rfl, ⟨v0, v1⟩, a6⟩
    have e1 : 6 + v < 2305843009213693952 := by omega
    have e2 : 0 ≤ 6 + v := by omega
    simp [e1, e2]
    refine run_bind (for_all (rangeW 0 (6 + v)) (fun i env h' => env 1 = some (.ref c) ∧ env 3 = some (.int r) ∧ env 4 = some (.int x) ∧ env 5 = some (.int y) ∧ Cd h0 h' w d c lo (b + i)) ⟨by simp, by simp, by simp, by simp, a6⟩ (fun _ _ _ _ => rfl) (fun i k env h' hw ⟨f1, f3, f4, f5, g⟩ => ?_)) ?_
    · obtain ⟨rfl, lt⟩ := range_at hw
      obtain ⟨L, k1, k2, k3⟩ := g.code
      have ll : L.length < 16777216 := by omega
      simp [l_law_piece_1, f1, f3, f4, f5, k1, ll]
      exact g.push [.op (S [43]) r x y] k2 k3 rfl (by simp only [List.mem_singleton, forall_eq]; exact ⟨by simp [signs], hr, hx, hy⟩) (by simp <;> omega)
    rintro ⟨_, env⟩ h7 ⟨rfl, f1, f3, f4, f5, a7⟩
    try dsimp only at a7
    rw [range_len] at a7
    simp
    exact q _ _ ⟨rfl, a7.le (by omega)⟩
  refine run_ite (fun c8 => ?_) (fun c8 => ?_)
  · -- a call
    have z6 : L5.length + 1 < 16777216 := by omega
    have z7 : L5.length + 2 < 16777216 := by omega
    have z8 : L5.length + 3 < 16777216 := by omega
    simp [l5, z5, z6, z7, z8, hs_hs]
    exact q _ _ ⟨rfl, a5.push [.call 7 (L5.length + 2), .go (L5.length + 4), .send p x, .back 7] p5 n5 rfl (by
      simp only [List.mem_cons, List.not_mem_nil, or_false, forall_eq_or_imp, forall_eq]
      exact ⟨⟨⟨by omega, by omega⟩, by omega, by omega⟩, ⟨by omega, by omega⟩, ⟨hpr, hx⟩, by constructor <;> omega⟩) (by simp <;> omega)⟩
  · -- a take or ask, told on
    refine run_bind (a5.cpick (by simp)) ?_
    rintro k h6 ⟨hk, a6⟩
    obtain ⟨L6, l6, p6, n6⟩ := a6.code
    have z6 : L6.length < 16777216 := by omega
    have z7 : L6.length + 1 < 16777216 := by omega
    obtain ⟨i, ei, oi⟩ : ∃ i, W.tup [k, .int r, .int p] = insW i ∧ PreOk i := by
      simp at hk
      rcases hk with rfl | rfl
      · exact ⟨.take r p, rfl, hr, hpr⟩
      · exact ⟨.ask r p, rfl, hr, hpr⟩
    simp [l5, l6, z6, z7, hs_hs, ei]
    have a7 := a6.push (lo' := lo) (b' := b + 2) [i, .op (S [43]) x x r] p6 n6 rfl (by
      simp only [List.mem_cons, List.not_mem_nil, or_false, forall_eq_or_imp, forall_eq]
      exact ⟨oi, by simp [signs], hx, hx, hr⟩) (by simp <;> omega)
    refine run_bind (a7.cpick' (by simp) (by simp)) ?_
    rintro k2 h8 ⟨hk2, a8⟩
    obtain ⟨L8, l8, p8, n8⟩ := a8.code
    have z8 : L8.length < 16777216 := by omega
    obtain ⟨v, rfl, hv⟩ : ∃ v : Int, k2 = .int v ∧ isR v := by
      simp at hk2; rcases hk2 with z | z
      · exact ⟨0, z, by constructor <;> omega⟩
      · exact ⟨1, z, by constructor <;> omega⟩
    simp [l6, l8, z8]
    exact q _ _ ⟨rfl, a8.push [.send v x] p8 n8 rfl (by simp only [List.mem_singleton, forall_eq]; exact ⟨hv, hx⟩) (by simp <;> omega)⟩
end
end Nw

set_option Elab.async false
set_option linter.all false
set_option maxRecDepth 100000
set_option maxHeartbeats 1000000
/-! Plans: a guest of drawn code. -/
namespace Nw
open PySem PySem.Spec PyProof.Rows L2
/-- a place is laid behind the code -/
def lay (base : Int) : Ins → Ins
  | .load r b n => if n < 0 then .load r b (base - 1 - n) else .load r b n
  | .store r b n => if n < 0 then .store r b (base - 1 - n) else .store r b n
  | i => i
theorem lay_ok {base : Int} (h0 : 1 ≤ base) (h1 : base ≤ 1000) {i : Ins} (ok : PreOk i) : InsOk (lay base i) := by
  cases i with
  | load r b n =>
    obtain ⟨hr, hb, n0, n1⟩ := ok
    simp only [lay]
    split
    · exact ⟨hr, hb, by constructor <;> omega⟩
    · exact ⟨hr, hb, by constructor <;> omega⟩
  | store r b n =>
    obtain ⟨hr, hb, n0, n1⟩ := ok
    simp only [lay]
    split
    · exact ⟨hr, hb, by constructor <;> omega⟩
    · exact ⟨hr, hb, by constructor <;> omega⟩
  | _ => exact ok
theorem cut3 {a b c d : W} : cut [a, b, c, d] none (some 3) = [a, b, c] := rfl
section
variable {n : Nat} {h : VH} {w d : Nat}
theorem words_run {m : Nat} (hm : m ≤ 100) (a : WOk h w d) (own : List Nat) (env : Env) (e0 : env 0 = some (.ref w)) (ho : 0 ∉ own) (k : Nat) (hk : k ≠ 0) :
    Run (itK (.ws (rangeW 0 m)) (xlcF (prg.cfg (n + 4)) e_law_guest_2 own (.nm k) [] env) h) fun acc h' => ∃ ws : List Int, acc = ws.map W.int ∧ (∀ x ∈ ws, isW x) ∧ ws.length = m ∧ WOk h' w d ∧ Mod (· = w) h h' := by
  refine (lc_inv (rangeW 0 m) (fun i acc h' => ∃ ws : List Int, acc = ws.map W.int ∧ (∀ x ∈ ws, isW x) ∧ ws.length = i ∧ WOk h' w d ∧ Mod (· = w) h h') ⟨[], rfl, by simp, rfl, a, .rfl⟩ (by rw [range_len]; omega) (fun _ _ _ _ => rfl) (fun i x acc h' hx ⟨ws, e1, e2, e3, e4, e5⟩ => ?_)).imp ?_
  · have hk' : (0 : Nat) ≠ k := hk.symm
    simp [e_law_guest_2, e0, ho, hk']
    refine run_bind (c_word e4) ?_
    rintro _ h2 ⟨v, rfl, hv, a2, m2⟩
    simp
    refine ⟨ws ++ [v], by simp [e1], fun x hx => ?_, by simp [e3], a2, e5.trans m2⟩
    rcases List.mem_append.mp hx with z | z
    · exact e2 x z
    · simp at z; subst z; exact hv
  · rintro acc h' ⟨⟨ws, e1, e2, e3, e4, e5⟩, _⟩
    exact ⟨ws, e1, e2, by rw [e3, range_len]; omega, e4, e5⟩
/-- a row of the guest's code, laid -/
theorem lay_run {own : List Nat} {env : Env} {i : Ins} {base : Int} (e5 : env 5 = some (.int base)) (ho : own = [6]) : Run (xlcF (prg.cfg (n + 4)) e_law_guest_1 own (.nm 6) [] env (insW i) h) fun r h' => r = some (insW (lay base i)) ∧ Mod no h h' := by
  subst ho
  have c3 : ∀ a b c d : W, cut [a, b, c, d] none (some 3) = [a, b, c] := fun _ _ _ _ => rfl
  cases i with
  | load r b m =>
    simp [e_law_guest_1, insW, insL, lay]
    refine run_ite (fun c => ?_) (fun c => ?_)
    · simp [e5, c3, c, insL]; exact Mod.rfl
    · simp [c, insL]; exact Mod.rfl
  | store r b m =>
    simp [e_law_guest_1, insW, insL, lay]
    refine run_ite (fun c => ?_) (fun c => ?_)
    · simp [e5, c3, c, insL]; exact Mod.rfl
    · simp [c, insL]; exact Mod.rfl
  | _ => simp [e_law_guest_1, insW, insL, lay]; exact Mod.rfl
theorem guest_tail {Q : W → VH → Prop} (q : ∀ (a : W) (h' : VH), (∃ code first, a = guestW code first ∧ GOk code first ∧ code.length ≤ 300 ∧ WOk h' w d ∧ Mod (· = w) h h') → Q a h') (env : Env) (h' : VH)
    (H : env 0 = some (.ref w) ∧ ∃ (size : Nat) (c : Nat), size ≤ 100 ∧ env 1 = some (.int (size : Nat)) ∧ env 2 = some (.ref c) ∧ h.length ≤ c ∧ Cd h h' w d c 1 300) :
    Run ((evSs (prg.cfg (n + 4)) (b_law_guest.drop 5) env h').bind retK) Q := by
  obtain ⟨f0, size, c, hsz, f1, f2, ml, a⟩ := H
  obtain ⟨L, l1, l2, l3⟩ := a.code
  have u := up16_le L.length
  have hb : ((L.length : Int) + 15) / 16 * 16 = (up16 L.length : Nat) := up16_int _
  simp [b_law_guest, f2, l1, hb, z_itl _ l1]
  refine run_bind (lc_mapx L insW (fun i => insW (lay (up16 L.length : Nat) i)) (its := .live c) (listAt_of l1) (by omega) (fun i h1 hi m => lay_run (by simp) rfl)) ?_
  rintro _ h2 ⟨rfl, m2⟩
  have t1 : L.length ≤ 16777216 := by omega
  have t2 : (size : Int) < 2305843009213693952 := by omega
  have t3 : size ≤ 16777216 := by omega
  simp [t1, f1, t2, t3]
  have wk : WOk (hn h2 (.lst (L.map fun i => insW (lay (up16 L.length : Nat) i)))) w d := (a.no m2).wok.new
  refine run_bind (words_run hsz wk [3] _ (by simp [f0]) (by simp) 3 (by simp)) ?_
  rintro _ h3 ⟨ws, rfl, w1, w2, w3, w4⟩
  have t4 : ws.length ≤ 16777216 := by omega
  simp [t4]
  refine q _ _ ⟨L.map (lay (up16 L.length : Nat)), ws, ?_, ⟨fun i hi => ?_, by simp; omega, by simp; omega, by omega, w1⟩, by simp; omega, w3.new, ?_⟩
  · simp [guestW, w2, List.map_map, Function.comp_def]
  · obtain ⟨j, hj, rfl⟩ := List.mem_map.mp hi
    exact lay_ok (by omega) (by omega) (l2 j hj)
  · refine (a.m.seq (u := (· = w)) ((m2.of_no).trans (Mod.new.trans (w4.trans Mod.new))) (fun q l z => ?_) (fun q _ z => z))
    rcases z with z | z
    · exact z
    · omega
theorem c_guest (a : WOk h w d) : Run (prg.call (n + 5) f_law_guest [.ref w] h) fun r h' => ∃ code first, r = guestW code first ∧ GOk code first ∧ code.length ≤ 300 ∧ WOk h' w d ∧ Mod (· = w) h h' := by
  refine run_q fun Q q => ?_
  rw [u_law_guest]
  refine run_cut 5 (fun env h' => env 0 = some (.ref w) ∧ ∃ (size : Nat) (c : Nat), size ≤ 100 ∧ env 1 = some (.int (size : Nat)) ∧ env 2 = some (.ref c) ∧ h.length ≤ c ∧ Cd h h' w d c 1 300) ?_ ?_
  rotate_left
  · exact guest_tail q
  refine run_q fun Q1 q1 => ?_
  simp [b_law_guest]
  have hw : nx h 0 ≠ w := by have := a.lt.1; unfold nx; omega
  refine run_bind (c_pick (n := n + 2) (r := nx h 0) a.new hg_new' (by simp) hw) ?_
  rintro z h1 ⟨hz, a1, m1⟩
  obtain ⟨size, rfl, hsz⟩ : ∃ v : Nat, z = .int v ∧ v ≤ 100 := by
    simp at hz; rcases hz with z | z | z | z | z
    · exact ⟨0, z, by omega⟩
    · exact ⟨3, z, by omega⟩
    · exact ⟨17, z, by omega⟩
    · exact ⟨40, z, by omega⟩
    · exact ⟨70, z, by omega⟩
  simp
  have ml : h.length ≤ nx h1 0 := by have := m1.1; rw [hn_len] at this; unfold nx; omega
  have a2 : Cd h (hn h1 (.lst [])) w d (nx h1 0) 0 0 := ⟨a1.new, by have := a1.lt.1; unfold nx; omega, by have := a1.lt.2; unfold nx; omega, ⟨[], by simp, by simp, by simp, by simp⟩, (Mod.new.trans (m1.mono fun q _ z => .inl z)).trans Mod.new⟩
  generalize hc : nx h1 0 = c at a2 ml
  refine run_bind (a2.cnext (by omega)) ?_
  rintro _ h2 ⟨v, rfl, ⟨v0, v1⟩, a3⟩
  have e1 : 4 + v < 2305843009213693952 := by omega
  have e2 : 0 ≤ 4 + v := by omega
  simp [e1, e2]
  refine run_bind (for_all (rangeW 0 (4 + v)) (fun i env h' => env 0 = some (.ref w) ∧ env 1 = some (.int (size : Nat)) ∧ env 2 = some (.ref c) ∧ Cd h h' w d c 0 (20 * i)) ⟨by simp, by simp, by simp, a3⟩ (fun _ _ _ _ => rfl) (fun i k env h' hw ⟨f1, f3, f4, g⟩ => ?_)) ?_
  · obtain ⟨rfl, lt⟩ := range_at hw
    simp [l_law_guest_1, f1, f3, f4]
    refine run_bind (c_piece g (by omega) hsz) ?_
    rintro _ h'' ⟨rfl, g2⟩
    simp
    exact ⟨f1, f3, f4, g2.le (by omega)⟩
  rintro ⟨_, env⟩ h3 ⟨rfl, f1, f3, f4, a4⟩
  try dsimp only at a4 f1 f3 f4
  rw [range_len] at a4
  simp [f1]
  refine run_bind (a4.cnext (by omega)) ?_
  rintro _ h4 ⟨t, rfl, ⟨t0, t1⟩, a5⟩
  obtain ⟨L5, l5, p5, n5⟩ := a5.code
  have z5 : L5.length < 16777216 := by omega
  have z6 : L5.length + 1 < 16777216 := by omega
  simp
  refine run_ite (fun c0 => ?_) (fun c0 => ?_)
  · simp [f4, f1]
    refine run_bind (a5.cpick (by simp)) ?_
    rintro k h6 ⟨hk, a6⟩
    obtain ⟨L6, l6, p6, n6⟩ := a6.code
    have z6 : L6.length < 16777216 := by omega
    obtain ⟨s, rfl, hs⟩ : ∃ s : Str, k = .str s ∧ (s = (S [100, 111, 110, 101]) ∨ s = (S [98, 111, 117, 110, 100])) := by
      simp at hk; rcases hk with z | z
      · exact ⟨_, z, .inl rfl⟩
      · exact ⟨_, z, .inr rfl⟩
    simp [l5, l6, z6]
    exact q1 _ _ ⟨rfl, by simp [f1], size, c, hsz, by simp [f3], by simp [f4], ml, a6.push [.fin s] p6 n6 rfl (by simp only [List.mem_singleton, forall_eq]; exact hs) (by simp; omega)⟩
  refine run_ite (fun c1 => ?_) (fun c1 => ?_)
  · simp [f4, l5, z5, z6, hs_hs]
    exact q1 _ _ ⟨rfl, by simp [f1], size, c, hsz, by simp [f3], by simp [f4], ml, a5.push [.rest, .go 0] p5 n5 rfl (by simp only [List.mem_cons, List.not_mem_nil, or_false, forall_eq_or_imp, forall_eq]; exact ⟨trivial, by constructor <;> omega⟩) (by simp; omega)⟩
  · simp [f4, l5, z5, z6, hs_hs]
    exact q1 _ _ ⟨rfl, by simp [f1], size, c, hsz, by simp [f3], by simp [f4], ml, a5.push [.go 0] p5 n5 rfl (by simp only [List.mem_singleton, forall_eq]; constructor <;> omega) (by simp; omega)⟩
end
end Nw

set_option Elab.async false
set_option linter.all false
set_option maxRecDepth 100000
set_option maxHeartbeats 1000000
/-! Plans: frames, the worst step. -/
namespace Nw
open PySem PySem.Spec PyProof.Rows L2
section
variable {n : Nat} {h : VH} {p : PlanT}
theorem c_worst : Run (prg.call (n + 1) f_law_worst [ticksW p] h) fun r h' => r = .int (worstT p) ∧ h' = h := by
  rw [u_law_worst]
  simp [b_law_worst, ticksW, worstT, mx, z_mull (i := 2) _ (by decide)]
theorem zip_at {p : PlanT} (lm : p.many.length = p.names.length) {g : Nat} (hg : g < p.names.length) : (guestL p)[g]? = some (.tup [.str (p.nm g), .int ((p.many[g]'(by omega) : Nat) : Int)]) := by
  have e : (p.names.zip p.many)[g]? = some (p.nm g, p.many[g]'(by omega)) := List.getElem?_zip_eq_some.mpr ⟨p.nm_of hg, List.getElem?_eq_getElem (by omega)⟩
  unfold guestL
  rw [List.getElem?_map, e]
  rfl
theorem guestL_len {p : PlanT} (lm : p.many.length = p.names.length) : (guestL p).length = p.names.length := by unfold guestL; simp [lm]
/-- a comprehension that keeps some of a range -/
theorem colF_run {own : List Nat} {env : Env} {co g m : Nat} (f1 : env 1 = some (.int (co : Nat))) (f2 : env 2 = some (.int (p.names.length : Nat))) (f5 : env 5 = some (.int (g : Nat))) (ho : own = [8]) (hco : co = p.sets / 4) (c0 : 0 < co) (n0 : 0 < p.names.length) (hN : co * (m + 1) ≤ 2000) {N : Int} (eN : N = ((co * (m + 1) : Nat) : Int)) :
    Run (itK (.ws (rangeW 0 N)) (xlcF (prg.cfg n) e_law_frames_1 own (.nm 8) t_law_frames_1 env) h) fun acc h' => acc.take m = (colF p g m).map W.int ∧ acc.length ≤ 2000 ∧ Mod no h h' := by
  subst ho
  rw [eN, range_nat]
  refine (lc_filx (List.range (co * (m + 1))) (fun j => W.int ((j : Nat) : Int)) (fun f => if f % (p.sets / 4) % p.names.length = g then some (.int (f : Int)) else none) (its := .ws ((List.range (co * (m + 1))).map fun j => W.int ((j : Nat) : Int))) rfl (by simp; omega) (fun f h1 hf md => ?_)).imp ?_
  · have e1 : (0 : Int) < (co : Int) := by omega
    have e2 : (0 : Int) < (p.names.length : Int) := by omega
    simp [e_law_frames_1, t_law_frames_1, f1, f2, f5, c0, n0]
    rw [← hco]
    by_cases c : f % co % p.names.length = g
    · have c' : (f : Int) % (co : Int) % (p.names.length : Int) = (g : Int) := by rw [← c]; simp
      simp [c, c']
      exact Mod.rfl
    · have c' : ¬ (f : Int) % (co : Int) % (p.names.length : Int) = (g : Int) := fun z => c (by
        have : (((f % co % p.names.length : Nat) : Int)) = (g : Int) := by rw [← z]; simp
        omega)
      simp [c, c']
      exact Mod.rfl
  · rintro acc h' ⟨e, md⟩
    refine ⟨?_, ?_, md⟩
    · rw [e]
      unfold colF
      rw [List.map_take, List.map_filterMap, ← hco]
      congr 2
      funext f
      split <;> rfl
    · rw [e]
      refine Nat.le_trans (List.length_filterMap_le _ _) ?_
      simp; omega
theorem c_frames (lm : p.many.length = p.names.length) (n0 : 0 < p.names.length) (n1 : p.names.length ≤ 8) (m0 : ∀ m ∈ p.many, 2 ≤ m ∧ m ≤ 64) (s0 : 0 < p.sets / 4) (s1 : p.sets ≤ 64) :
    Run (prg.call (n + 1) f_law_frames [planW p] h) fun r h' => r = .tup ((framesT p).map fun fs => .tup (fs.map W.int)) ∧ Mod no h h' := by
  refine run_q fun Q q => ?_
  rw [u_law_frames]
  obtain ⟨co, hco⟩ : ∃ c, c = p.sets / 4 := ⟨_, rfl⟩
  have s4 : ((p.sets : Int) / 4) = (co : Int) := by omega
  have r1 : (p.names.length : Int) < 2305843009213693952 := by omega
  simp [b_law_frames, planW, guestL_len lm, r1, s4]
  refine run_bind (for_all (rangeW 0 p.names.length) (fun i env h' => env 0 = some (planW p) ∧ env 1 = some (.int (co : Int)) ∧ env 2 = some (.int (p.names.length : Nat)) ∧ env 3 = some (.ref (nx h 0)) ∧ Mod no h h' ∧
    ∃ (acc : List (List Int)) (at_ : Nat), env 4 = some (.int (at_ : Nat)) ∧ hg h' (nx h 0) = some (.lst (acc.map fun fs => .tup (fs.map W.int))) ∧ framesT p = acc ++ framesL p i at_ (p.many.drop i) ∧ acc.length = i)
    ⟨by simp [planW], by simp, by simp, by simp, Mod.new, [], 0, by simp, by simp, rfl, rfl⟩ (fun _ _ _ _ => rfl) (fun g k env h' hw ⟨f0, f1, f2, f3, m, acc, at_, f4, l1, e1, e2⟩ => ?_)) ?_
  · obtain ⟨rfl, lt⟩ := range_at hw
    have hlt : g < p.names.length := by omega
    have zz := zip_at lm hlt
    refine run_q fun Q1 q1 => ?_
    have hm := m0 _ (List.getElem_mem (l := p.many) (show g < p.many.length by omega))
    have ed : p.many.drop g = p.many[g]'(by omega) :: p.many.drop (g + 1) := List.drop_eq_getElem_cons (by omega)
    generalize p.many[g]'(by omega) = mg at zz hm ed
    rw [ed] at e1
    have ll : acc.length < 16777216 := by omega
    have c1 : co * (mg + 1) ≤ 16 * 65 := Nat.mul_le_mul (by omega) (by omega)
    have c0 : 0 < co := by omega
    have c2 : (co : Int) * ((mg : Int) + 1) < 2305843009213693952 := by
      have : (co : Int) * ((mg : Int) + 1) = ((co * (mg + 1) : Nat) : Int) := by simp
      omega
    have c3 : (0 : Int) ≤ (co : Int) * ((mg : Int) + 1) := by
      have : (co : Int) * ((mg : Int) + 1) = ((co * (mg + 1) : Nat) : Int) := by simp
      omega
    have c4 : ((mg : Int) + 1).natAbs < 1152921504606846976 := by omega
    simp [l_law_frames_1, f0, planW, atW_nat, zz]
    refine run_ite (fun ck => ?_) (fun ck => ?_)
    · simp [f1, c2, c3, c4]
      refine run_bind (colF_run (co := co) (g := g) (m := mg) (by simp [f1]) (by simp [f2]) (by simp) rfl hco c0 n0 (by omega) (by simp)) ?_
      rintro ac h2 ⟨g1, g2, g3⟩
      have g4 : ac.length ≤ 16777216 := by omega
      have l2 : hg h2 (nx h 0) = _ := g3.get l1 (fun z => z)
      have g5 : cut ac none (some (mg : Int)) = (colF p g mg).map W.int := by
        rw [← g1]
        have : ¬ ((mg : Int) < 0) := by omega
        simp [cut, HT.sIx, this]
      simp [g4, f3, l2, g5]
      have ne : ¬ nx h 0 = nx h2 0 := by have := lt_of_get l2; unfold nx at this ⊢; omega
      simp [ne, l2, ll]
      refine q1 _ _ ⟨rfl, by simp [f0], by simp [f1], by simp [f2], by simp [f3], mod_push (((m.trans g3).trans Mod.new).trans Mod.new) (nx_le (Nat.le_refl _) _), acc ++ [colF p g mg], at_, by simp [f4], by simp [l2, ne], ?_, by simp [e2]⟩
      rw [e1, framesL, if_pos ck, if_pos ck]
      simp
    · have c5 : (mg : Int) < 2305843009213693952 := by omega
      simp [f3, l1, c5]
      refine run_bind (lc_mapx (List.range mg) (fun j => W.int ((j : Nat) : Int)) (fun k => .int ((at_ + k : Nat) : Int)) (its := .ws (rangeW 0 (mg : Int))) (by rw [range_nat]; rfl) (by simp; omega) (fun f h1 hf md => ?_)) ?_
      · simp [e_law_frames_2, f4]
        exact Mod.rfl
      rintro ac h2 ⟨rfl, g3⟩
      have l2 : hg h2 (nx h 0) = _ := g3.get l1 (fun z => z)
      have ne : ¬ nx h 0 = nx h2 0 := by have := lt_of_get l2; unfold nx at this ⊢; omega
      have g4 : mg ≤ 16777216 := by omega
      simp [g4, ne, l1, l2, ll, f4]
      refine q1 _ _ ⟨rfl, by simp [f0], by simp [f1], by simp [f2], by simp [f3], mod_push ((m.trans g3).trans Mod.new) (nx_le (Nat.le_refl _) _), acc ++ [rowF at_ mg], at_ + mg, by simp, by simp [l2, ne, rowF], ?_, by simp [e2]⟩
      rw [e1, framesL, if_neg ck, if_neg ck]
      simp
  rintro ⟨_, env⟩ h2 ⟨rfl, f0, f1, f2, f3, m, acc, at_, f4, l1, e1, e2⟩
  rw [range_len] at e1 e2
  have e3 : p.many.drop ((p.names.length : Int) - 0).toNat = [] := List.drop_eq_nil_of_le (by omega)
  rw [e3] at e1
  have f3 : env 3 = some (.ref (nx h 0)) := f3
  simp [f3, l1]
  refine q _ _ ⟨?_, m⟩
  rw [e1]
  simp [framesL]
end
end Nw

set_option Elab.async false
set_option linter.all false
set_option maxRecDepth 100000
set_option maxHeartbeats 1000000
/-! Plans that are drawn. -/
namespace Nw
open PySem PySem.Spec PyProof.Rows L2
/-- the text of a digit -/
theorem digit_w {k : Nat} (hk : k < 8) (h : VH) : biW .str [.int (k : Int)] h = .ok (.str (S [48 + k])) h := by
  have e : ∀ k : Nat, k < 8 → (toString (k : Int) : Str) = S [48 + k] := by decide +kernel
  show (if (k : Int).natAbs < 2 ^ 64 then R.ok (W.str (toString (k : Int))) h else .bad) = _
  rw [if_pos (by omega), e k hk]
/-- draws, and nothing else that is old -/
structure Dw (h0 h : VH) (w d : Nat) : Prop where
  wok : WOk h w d
  m : Mod (· = w) h0 h
section
variable {n : Nat} {h0 h h' : VH} {w d : Nat}
theorem Dw.next (a : Dw h0 h w d) (wk : WOk h' w d) (m : Mod (· = w) h h') : Dw h0 h' w d := ⟨wk, a.m.trans m⟩
theorem Dw.no (a : Dw h0 h w d) (m : Mod no h h') : Dw h0 h' w d := ⟨a.wok.mod m (fun z => z) (fun z => z), a.m.trans m.of_no⟩
theorem Dw.new {o : O} (a : Dw h0 h w d) : Dw h0 (hn h o) w d := a.no Mod.new
theorem Dw.get (a : Dw h0 h w d) {r : Nat} {o : O} (e : hg h0 r = some o) (ne : r ≠ w) : hg h r = some o := a.m.get e ne
theorem Dw.wlt (a : Dw h0 h w d) : w < h.length := a.wok.lt.1
theorem Dw.push {r : Nat} {o : O} (a : Dw h0 h w d) (hr : h0.length ≤ r) (nw : r ≠ w) (nd : r ≠ d) : Dw h0 (hs h r o) w d := ⟨a.wok.mod (s := (· = r)) (Mod.set rfl) (fun z => nw z.symm) (fun z => nd z.symm), a.m.seq (t := (· = r)) (Mod.set rfl) (fun q _ z => z) (fun q l z => by omega)⟩
theorem Dw.cnext {many : Int} (a : Dw h0 h w d) (hm : 0 < many) : Run (prg.call (n + 1) f_law_next [.ref w, .int many] h) fun x h' => ∃ v : Int, x = .int v ∧ (0 ≤ v ∧ v < many) ∧ Dw h0 h' w d ∧ Mod (· = w) h h' :=
  (c_next (n := n) a.wok hm).imp fun x h' ⟨v, p1, p2, p3, p4⟩ => ⟨v, p1, p2, a.next p3 p4, p4⟩
theorem Dw.cpick' {l : List W} {r : Nat} (a : Dw h0 h w d) (ne : l ≠ []) (hr : r = nx h 0) : Run (prg.call (n + 2) f_law_pick [.ref w, .ref r] (hn h (.lst l))) fun x h' => x ∈ l ∧ Dw h0 h' w d ∧ Mod (· = w) h h' := by
  subst hr
  have hw : nx h 0 ≠ w := by have := a.wlt; unfold nx; omega
  refine (c_pick (n := n) (r := nx h 0) a.wok.new hg_new' ne hw).imp ?_
  rintro x h' ⟨p1, p2, p3⟩
  exact ⟨p1, a.new.next p2 p3, Mod.new.trans p3⟩
theorem Dw.cpickR {l : List W} {r : Nat} (a : Dw h0 h w d) (ne : l ≠ []) (hr : hg h r = some (.lst l)) (nw : r ≠ w) : Run (prg.call (n + 2) f_law_pick [.ref w, .ref r] h) fun x h' => x ∈ l ∧ Dw h0 h' w d ∧ Mod (· = w) h h' := by
  refine (c_pick (n := n) (r := r) a.wok hr ne nw).imp ?_
  rintro x h' ⟨p1, p2, p3⟩
  exact ⟨p1, a.next p2 p3, p3⟩
theorem lastC_app (x : Str) (c : Nat) : lastC (x ++ S [c]) = c := by
  show ((x.cps ++ #[c]).toList.getLast?).getD 0 = c
  simp
/-- the names -/
theorem names_run {many : Nat} (hm : many ≤ 8) (a : Dw h0 h w d) {own : List Nat} {env : Env} (e0 : env 0 = some (.ref w)) (ho : own = [10]) :
    Run (itK (.ws (rangeW 0 many)) (xlcF (prg.cfg (n + 2)) e_law_plan_1 own (.nm 10) [] env) h) fun acc h' => ∃ ns : List Str, acc = ns.map W.str ∧ (∀ i x, ns[i]? = some x → lastC x = 48 + i) ∧ ns.length = many ∧ Dw h0 h' w d := by
  subst ho
  refine (lc_inv (rangeW 0 many) (fun i acc h' => ∃ ns : List Str, acc = ns.map W.str ∧ (∀ i x, ns[i]? = some x → lastC x = 48 + i) ∧ ns.length = i ∧ Dw h0 h' w d) ⟨[], rfl, by simp, rfl, a⟩ (by rw [range_len]; omega) (fun _ _ _ _ => rfl) (fun i x acc h' hx ⟨ns, e1, e2, e3, e4⟩ => ?_)).imp ?_
  · obtain ⟨rfl, lt⟩ := range_at hx
    have hi : i < 8 := by omega
    refine run_q fun Q q => ?_
    simp [e_law_plan_1, e0]
    refine run_bind (e4.cpick' (by simp) rfl) ?_
    rintro z h2 ⟨hz, a2, m2⟩
    obtain ⟨s, rfl, hs⟩ : ∃ s : Str, z = .str s ∧ s.length ≤ 2 := by
      simp at hz; rcases hz with z | z | z
      · exact ⟨_, z, by decide⟩
      · exact ⟨_, z, by decide⟩
      · exact ⟨_, z, by decide⟩
    simp [digit_w hi]
    have l2 : s.length ≤ 16777215 := by omega
    rw [if_pos l2]
    simp
    refine q _ _ ⟨ns ++ [s ++ S [48 + i]], by simp [e1], fun j x hj => ?_, by simp [e3], a2⟩
    by_cases hj' : j < ns.length
    · rw [List.getElem?_append_left hj'] at hj
      exact e2 j x hj
    · rw [List.getElem?_append_right (by omega)] at hj
      have : j - ns.length = 0 := by
        by_cases z : j - ns.length = 0
        · exact z
        · rw [List.getElem?_eq_none (by simp; omega)] at hj; cases hj
      rw [this] at hj
      simp at hj
      subst hj
      rw [lastC_app]; omega
  · rintro acc h' ⟨⟨ns, e1, e2, e3, e4⟩, _⟩
    exact ⟨ns, e1, e2, by rw [e3, range_len]; omega, e4⟩
end
end Nw

set_option Elab.async false
set_option linter.all false
set_option maxRecDepth 100000
set_option maxHeartbeats 2000000
/-! Plans that are drawn. -/
namespace Nw
open PySem PySem.Spec PyProof.Rows L2
section
variable {n : Nat} {h0 h h' : VH} {w d : Nat}
/-- what was drawn at first: names, caches, ticks, guests -/
structure Pl1 (h0 : VH) (w d : Nat) (qt : Bool) (many : Nat) (p : PlanT) (rn : Nat) (env : Env) (h : VH) : Prop where
  e0 : env 0 = some (.ref w)
  e1 : env 1 = some (.bl qt)
  e2 : env 2 = some (.int (many : Nat))
  e3 : env 3 = some (.ref rn)
  hn : hg h rn = some (.lst (p.names.map W.str))
  rn0 : h0.length ≤ rn
  rw : rn ≠ w
  dw : Dw h0 h w d
  e5 : env 5 = some (.tup [.int p.sets, .int p.ways, .str p.keep])
  e6 : env 6 = some (.tup [.int p.room, .str p.lkeep])
  e7 : env 7 = some (ticksW p)
  e8 : env 8 = some (.tup (guestL p))
  id : p.id = (S [112])
  mem : p.mem = 0
  nl : p.names.length = many
  last : ∀ i x, p.names[i]? = some x → lastC x = 48 + i
  lm : p.many.length = many
  m0 : ∀ m ∈ p.many, 2 ≤ m ∧ m ≤ 4
  sets : many ≤ p.sets / 4 ∧ p.sets % 4 = 0 ∧ p.sets ≤ 64
  ways : 1 ≤ p.ways ∧ p.ways ≤ 4
  keep : p.keep = (S [115, 104, 97, 114, 101, 100]) ∨ p.keep = (S [102, 108, 117, 115, 104, 101, 100]) ∨ p.keep = (S [99, 111, 108, 111, 117, 114, 101, 100])
  room : 1 ≤ p.room ∧ p.room ≤ 16
  lkeep : p.lkeep = (S [115, 104, 97, 114, 101, 100]) ∨ p.lkeep = (S [102, 108, 117, 115, 104, 101, 100])
  ticks : 1 ≤ p.hit ∧ p.hit ≤ 4 ∧ 5 ≤ p.miss ∧ p.miss ≤ 24 ∧ 1 ≤ p.look ∧ p.look ≤ 9 ∧ 1 ≤ p.fault ∧ p.fault ≤ 40
  quiet : qt = true → p.keep ≠ (S [115, 104, 97, 114, 101, 100]) ∧ p.lkeep = (S [102, 108, 117, 115, 104, 101, 100])
theorem guests_run {ns : List Str} {rn : Nat} (hl : ns.length ≤ 8) (a : Dw h0 h w d) (hr : hg h rn = some (.lst (ns.map W.str))) (nw : rn ≠ w) {own : List Nat} {env : Env} (e0 : env 0 = some (.ref w)) (ho : own = [18]) :
    Run (itK (.live rn) (xlcF (prg.cfg (n + 2)) e_law_plan_2 own (.nm 18) [] env) h) fun acc h' => ∃ ms : List Nat, ms.length = ns.length ∧ acc = (ns.zip ms).map (fun x => .tup [.str x.1, .int x.2]) ∧ (∀ m ∈ ms, 2 ≤ m ∧ m ≤ 4) ∧ Dw h0 h' w d ∧ Mod (· = w) h h' := by
  subst ho
  refine (lc_inv (ns.map W.str) (fun i acc h' => ∃ ms : List Nat, ms.length = i ∧ acc = (ns.zip ms).map (fun x => .tup [.str x.1, .int x.2]) ∧ (∀ m ∈ ms, 2 ≤ m ∧ m ≤ 4) ∧ Dw h0 h' w d ∧ Mod (· = w) h h') (its := .live rn) ⟨[], rfl, by simp, by simp, a, .rfl⟩ (by simp; omega) (fun i acc h' ⟨_, _, _, _, _, m⟩ => listAt_of (m.get hr nw)) (fun i x acc h' hx ⟨ms, e1, e2, e3, e4, e5⟩ => ?_)).imp ?_
  · rw [List.getElem?_map] at hx
    cases hs : ns[i]? with
    | none => rw [hs] at hx; cases hx
    | some s =>
      rw [hs] at hx
      cases hx
      refine run_q fun Q q => ?_
      simp [e_law_plan_2, e0]
      refine run_bind (e4.cnext (by omega)) ?_
      rintro _ h2 ⟨v, rfl, ⟨v0, v1⟩, a2, m2⟩
      simp
      refine q _ _ ⟨ms ++ [(2 + v).toNat], by simp [e1], ?_, fun m hm => ?_, a2, e5.trans m2⟩
      · have : ns.zip (ms ++ [(2 + v).toNat]) = ns.zip ms ++ [(s, (2 + v).toNat)] := by
          have hi := (List.getElem?_eq_some_iff.mp hs).1
          have : ns = ns.take i ++ s :: ns.drop (i + 1) := by
            rw [← (List.getElem?_eq_some_iff.mp hs).2, List.getElem_cons_drop, List.take_append_drop]
          rw [this, List.zip_append (by simp; omega)]
          rw [show (List.take i ns ++ s :: List.drop (i + 1) ns).zip ms = (List.take i ns).zip ms from by
            conv => lhs; rw [show ms = ms ++ [] from by simp, List.zip_append (by simp; omega)]
            simp]
          simp
        rw [this, e2]
        simp
        omega
      · rcases List.mem_append.mp hm with z | z
        · exact e3 m z
        · simp at z; omega
  · rintro acc h' ⟨⟨ms, e1, e2, e3, e4, e5⟩, _⟩
    exact ⟨ms, by rw [e1, List.length_map], e2, e3, e4, e5⟩
/-- the names are drawn -/
structure Pl0 (h0 : VH) (w d : Nat) (qt : Bool) (many : Nat) (ns : List Str) (rn : Nat) (env : Env) (h : VH) : Prop where
  e0 : env 0 = some (.ref w)
  e1 : env 1 = some (.bl qt)
  e2 : env 2 = some (.int (many : Nat))
  e3 : env 3 = some (.ref rn)
  hn : hg h rn = some (.lst (ns.map W.str))
  rn0 : h0.length ≤ rn
  rw : rn ≠ w
  dw : Dw h0 h w d
  nl : ns.length = many
  last : ∀ i x, ns[i]? = some x → lastC x = 48 + i
theorem plan_0 {qt : Bool} {many : Nat} (h1 : 1 ≤ many) (h2 : many ≤ 8) (a : WOk h w d) :
    Run (evSs (prg.cfg (n + 3)) (b_law_plan.take 1) (env0 [.ref w, .bl qt, .int many]) h) fun r h' => r.1 = .nx ∧ ∃ ns rn, Pl0 h w d qt many ns rn r.2 h' := by
  refine run_q fun Q q => ?_
  have r1 : (many : Int) < 2305843009213693952 := by omega
  have a0 : Dw h h w d := ⟨a, .rfl⟩
  simp [b_law_plan, r1]
  refine run_bind (names_run (n := n + 1) h2 a0 (by simp) rfl) ?_
  rintro _ g1 ⟨ns, rfl, n1, n2, a1⟩
  have l1 : ns.length ≤ 16777216 := by omega
  simp [l1]
  exact q _ _ ⟨rfl, ns, nx g1 0, by simp, by simp, by simp, by simp, hg_new', nx_le a1.m.1 0, by have := a1.wlt; unfold nx; omega, a1.new, n2, n1⟩
structure Plk (h0 : VH) (w d : Nat) (qt : Bool) (many : Nat) (ns : List Str) (rn : Nat) (k : Str) (env : Env) (h : VH) : Prop where
  a : Pl0 h0 w d qt many ns rn env h
  e4 : env 4 = some (.str k)
  keep : k = (S [115, 104, 97, 114, 101, 100]) ∨ k = (S [102, 108, 117, 115, 104, 101, 100]) ∨ k = (S [99, 111, 108, 111, 117, 114, 101, 100])
  quiet : qt = true → k ≠ (S [115, 104, 97, 114, 101, 100])
theorem Pl0.go {h1 h2 : VH} {qt : Bool} {many : Nat} {ns : List Str} {rn : Nat} {env env' : Env} (a : Pl0 h w d qt many ns rn env h1) (w2 : Dw h h2 w d) (m : Mod (· = w) h1 h2) (e : ∀ i, i < 4 → env' i = env i) : Pl0 h w d qt many ns rn env' h2 :=
  ⟨by rw [e 0 (by omega)]; exact a.e0, by rw [e 1 (by omega)]; exact a.e1, by rw [e 2 (by omega)]; exact a.e2, by rw [e 3 (by omega)]; exact a.e3, m.get a.hn a.rw, a.rn0, a.rw, w2, a.nl, a.last⟩
theorem plan_k {qt : Bool} {many : Nat} {ns : List Str} {rn : Nat} {env : Env} {g : VH} (a : Pl0 h w d qt many ns rn env g) :
    Run (evSs (prg.cfg (n + 3)) ((b_law_plan.drop 1).take 1) env g) fun r h' => r.1 = .nx ∧ ∃ k, Plk h w d qt many ns rn k r.2 h' := by
  refine run_q fun Q q => ?_
  simp [b_law_plan, a.e0, a.e1]
  cases qt
  · simp
    refine run_bind (a.dw.cpick' (by simp) rfl) ?_
    rintro z h3 ⟨hz, a3, m3⟩
    obtain ⟨k, rfl, k1⟩ : ∃ k : Str, z = .str k ∧ (k = (S [115, 104, 97, 114, 101, 100]) ∨ k = (S [102, 108, 117, 115, 104, 101, 100]) ∨ k = (S [99, 111, 108, 111, 117, 114, 101, 100])) := by
      simp at hz
      rcases hz with z | z | z <;> exact ⟨_, z, by simp⟩
    simp
    exact q _ _ ⟨rfl, k, a.go a3 m3 (fun i hi => by simp; omega), by simp, k1, by simp⟩
  · simp
    refine run_bind (a.dw.cpick' (by simp) rfl) ?_
    rintro z h3 ⟨hz, a3, m3⟩
    obtain ⟨k, rfl, k1, k2⟩ : ∃ k : Str, z = .str k ∧ (k = (S [115, 104, 97, 114, 101, 100]) ∨ k = (S [102, 108, 117, 115, 104, 101, 100]) ∨ k = (S [99, 111, 108, 111, 117, 114, 101, 100])) ∧ k ≠ (S [115, 104, 97, 114, 101, 100]) := by
      simp at hz
      rcases hz with z | z <;> exact ⟨_, z, by simp, by simp⟩
    simp
    exact q _ _ ⟨rfl, k, a.go a3 m3 (fun i hi => by simp; omega), by simp, k1, fun _ => k2⟩
structure Plc (h0 : VH) (w d : Nat) (qt : Bool) (many : Nat) (ns : List Str) (rn : Nat) (k : Str) (s ways room : Nat) (lk : Str) (env : Env) (h : VH) : Prop where
  a : Pl0 h0 w d qt many ns rn env h
  keep : k = (S [115, 104, 97, 114, 101, 100]) ∨ k = (S [102, 108, 117, 115, 104, 101, 100]) ∨ k = (S [99, 111, 108, 111, 117, 114, 101, 100])
  lkeep : lk = (S [115, 104, 97, 114, 101, 100]) ∨ lk = (S [102, 108, 117, 115, 104, 101, 100])
  quiet : qt = true → k ≠ (S [115, 104, 97, 114, 101, 100]) ∧ lk = (S [102, 108, 117, 115, 104, 101, 100])
  e5 : env 5 = some (.tup [.int s, .int ways, .str k])
  e6 : env 6 = some (.tup [.int room, .str lk])
  sets : many ≤ s / 4 ∧ s % 4 = 0 ∧ s ≤ 64
  ways' : 1 ≤ ways ∧ ways ≤ 4
  room' : 1 ≤ room ∧ room ≤ 16
theorem plan_c {qt : Bool} {many : Nat} {ns : List Str} {rn : Nat} {k : Str} {env : Env} {g : VH} (h1 : 1 ≤ many) (h2 : many ≤ 8) (b : Plk h w d qt many ns rn k env g) :
    Run (evSs (prg.cfg (n + 3)) ((b_law_plan.drop 2).take 2) env g) fun r h' => r.1 = .nx ∧ ∃ s ways room lk, Plc h w d qt many ns rn k s ways room lk r.2 h' := by
  refine run_q fun Q q => ?_
  have a := b.a
  have m1 : ((many : Int)).natAbs < 1152921504606846976 := by omega
  simp [b_law_plan, a.e0, a.e2, z_mull (i := 2) _ (by decide), b.e4]
  refine run_bind (a.dw.cpick' (by simp) (by simp)) ?_
  rintro z g1 ⟨hz, a1, n1⟩
  obtain ⟨c, rfl, hc⟩ : ∃ c : Nat, z = .int c ∧ many ≤ c ∧ c ≤ 16 := by
    simp at hz
    rcases hz with z | z | z | z
    · exact ⟨many, z, by omega, by omega⟩
    · exact ⟨many + 1, by simpa using z, by omega, by omega⟩
    · exact ⟨2 * many, by simpa using z, by omega, by omega⟩
    · exact ⟨16, z, by omega, by omega⟩
  have m2 : ((c : Int)).natAbs < 1152921504606846976 := by omega
  simp [z_mull (i := 4) _ (by decide), a.e0, b.e4]
  refine run_bind (a1.cnext (by omega)) ?_
  rintro _ g2 ⟨v, rfl, ⟨v0, v1⟩, a2, n2⟩
  simp [a.e0, b.e4]
  refine run_bind (a2.cpick' (by simp) (by simp)) ?_
  rintro z g3 ⟨hz, a3, n3⟩
  obtain ⟨room, rfl, hr⟩ : ∃ c : Nat, z = .int c ∧ 1 ≤ c ∧ c ≤ 16 := by
    simp at hz
    rcases hz with z | z | z | z
    · exact ⟨1, z, by omega, by omega⟩
    · exact ⟨2, z, by omega, by omega⟩
    · exact ⟨3, z, by omega, by omega⟩
    · exact ⟨16, z, by omega, by omega⟩
  have w1 : (1 + v) = (((1 + v).toNat : Nat) : Int) := by omega
  have s1 : 4 * (c : Int) = ((4 * c : Nat) : Int) := by omega
  cases qt
  · simp [a.e0, a.e1]
    refine run_bind (a3.cpick' (by simp) (by simp)) ?_
    rintro z g4 ⟨hz, a4, n4⟩
    obtain ⟨lk, rfl, k1⟩ : ∃ k : Str, z = .str k ∧ (k = (S [115, 104, 97, 114, 101, 100]) ∨ k = (S [102, 108, 117, 115, 104, 101, 100])) := by
      simp at hz
      rcases hz with z | z <;> exact ⟨_, z, by simp⟩
    simp
    exact q _ _ ⟨rfl, 4 * c, (1 + v).toNat, room, lk, a.go a4 (((n1.trans n2).trans n3).trans n4) (fun i hi => by simp [show i ≠ 5 by omega, show i ≠ 6 by omega]), b.keep, k1, by simp, by simp; omega, by simp, by omega, by omega, hr⟩
  · simp [a.e0, a.e1]
    exact q _ _ ⟨rfl, 4 * c, (1 + v).toNat, room, _, a.go a3 ((n1.trans n2).trans n3) (fun i hi => by simp [show i ≠ 5 by omega, show i ≠ 6 by omega]), b.keep, .inr rfl, fun _ => ⟨b.quiet rfl, rfl⟩, by simp; omega, by simp, by omega, by omega, hr⟩
theorem plan_g {qt : Bool} {many : Nat} {ns : List Str} {rn : Nat} {k : Str} {s ways room : Nat} {lk : Str} {env : Env} {g : VH} (h1 : 1 ≤ many) (h2 : many ≤ 8) (b : Plc h w d qt many ns rn k s ways room lk env g) :
    Run (evSs (prg.cfg (n + 3)) ((b_law_plan.drop 4).take 2) env g) fun r h' => r.1 = .nx ∧ ∃ p, Pl1 h w d qt many p rn r.2 h' := by
  refine run_q fun Q q => ?_
  have a := b.a
  simp [b_law_plan, a.e0]
  refine run_bind (a.dw.cnext (by omega)) ?_
  rintro _ g1 ⟨hit, rfl, ⟨t0, t1⟩, a1, n1⟩
  simp [a.e0]
  refine run_bind (a1.cnext (by omega)) ?_
  rintro _ g2 ⟨miss, rfl, ⟨t2, t3⟩, a2, n2⟩
  simp [a.e0]
  refine run_bind (a2.cnext (by omega)) ?_
  rintro _ g3 ⟨look, rfl, ⟨t4, t5⟩, a3, n3⟩
  simp [a.e0]
  refine run_bind (a3.cnext (by omega)) ?_
  rintro _ g4 ⟨flt, rfl, ⟨t6, t7⟩, a4, n4⟩
  have mm := ((n1.trans n2).trans n3).trans n4
  have hr : hg g4 rn = some (.lst (ns.map W.str)) := mm.get a.hn a.rw
  simp [a.e3, z_itl _ hr]
  refine run_bind (guests_run (n := n + 1) (by rw [a.nl]; exact h2) a4 hr a.rw (by simp [a.e0]) rfl) ?_
  rintro _ g5 ⟨ms, l1, rfl, l2, a5, n5⟩
  have l3 : ns.length ≤ 16777216 := by rw [a.nl]; omega
  simp [l3, l1]
  exact q _ _ ⟨rfl, { id := (S [112]), mem := 0, sets := s, ways := ways, keep := k, room := room, lkeep := lk, hit := 1 + hit, miss := 5 + miss, look := 1 + look, fault := 1 + flt, names := ns, many := ms, chans := [], slots := [] },
    by simp [a.e0], by simp [a.e1], by simp [a.e2], by simp [a.e3], (Mod.new (s := (· = w))).get (n5.get hr a.rw) a.rw, a.rn0, a.rw, a5.new, by simp [b.e5], by simp [b.e6], by simp [ticksW], by simp [guestL], rfl, rfl, a.nl, a.last, by rw [← a.nl]; exact l1, l2, b.sets, b.ways', b.keep, b.room', b.lkeep,
    ⟨by simp; omega, by simp; omega, by simp; omega, by simp; omega, by simp; omega, by simp; omega, by simp; omega, by simp; omega⟩, b.quiet⟩
end
end Nw

set_option Elab.async false
set_option linter.all false
set_option maxRecDepth 100000
set_option maxHeartbeats 2000000
/-! Plans that are drawn: channels, slots. -/
namespace Nw
open PySem PySem.Spec PyProof.Rows L2
section
variable {n : Nat} {h0 h h' : VH} {w d : Nat} {qt : Bool} {many : Nat} {p : PlanT} {rn : Nat} {env env' : Env}
theorem Pl1.go {h1 h2 : VH} (a : Pl1 h w d qt many p rn env h1) (w2 : Dw h h2 w d) (m : hg h2 rn = hg h1 rn) (e : ∀ i, i < 9 → i ≠ 4 → env' i = env i) : Pl1 h w d qt many p rn env' h2 :=
  ⟨by rw [e 0 (by omega) (by omega)]; exact a.e0, by rw [e 1 (by omega) (by omega)]; exact a.e1, by rw [e 2 (by omega) (by omega)]; exact a.e2, by rw [e 3 (by omega) (by omega)]; exact a.e3, by rw [m]; exact a.hn, a.rn0, a.rw, w2,
    by rw [e 5 (by omega) (by omega)]; exact a.e5, by rw [e 6 (by omega) (by omega)]; exact a.e6, by rw [e 7 (by omega) (by omega)]; exact a.e7, by rw [e 8 (by omega) (by omega)]; exact a.e8, a.id, a.mem, a.nl, a.last, a.lm, a.m0, a.sets, a.ways, a.keep, a.room, a.lkeep, a.ticks, a.quiet⟩
theorem Pl1.ch (a : Pl1 h0 w d qt many p rn env h) (cs : List (Nat × Nat × Nat)) (ss : List (Nat × Int)) : Pl1 h0 w d qt many { p with chans := cs, slots := ss } rn env h :=
  ⟨a.e0, a.e1, a.e2, a.e3, a.hn, a.rn0, a.rw, a.dw, a.e5, a.e6, a.e7, a.e8, a.id, a.mem, a.nl, a.last, a.lm, a.m0, a.sets, a.ways, a.keep, a.room, a.lkeep, a.ticks, a.quiet⟩
structure Pl2 (h0 : VH) (w d : Nat) (qt : Bool) (many : Nat) (p : PlanT) (rn rc : Nat) (env : Env) (h : VH) : Prop where
  a : Pl1 h0 w d qt many p rn env h
  e9 : env 9 = some (.ref rc)
  hc : hg h rc = some (.lst (p.chans.map (chanW p)))
  rc0 : h0.length ≤ rc
  ne : rc ≠ w ∧ rc ≠ d ∧ rc ≠ rn
  ch : ∀ c ∈ p.chans, c.1 < many ∧ c.2.1 < many ∧ c.1 ≠ c.2.1 ∧ 1 ≤ c.2.2 ∧ c.2.2 ≤ 64
theorem nmW_at {p : PlanT} {k : Nat} (h : k < p.names.length) : (p.names.map W.str)[k]? = some (.str (p.nm k)) := by rw [List.getElem?_map, p.nm_of h]; rfl
theorem chan_turn {rc i : Nat} {k : W} {g : VH} (h1 : 1 < many) (h2 : many ≤ 8) (b : Pl2 h w d qt many p rn rc env g) (l : p.chans.length = i) (li : i < 100) :
    Run (forF (prg.cfg (n + 3)) (.nm 10) l_law_plan_1 k env g) fun r h' => r.1 = .nx ∧ ∃ cs, cs.length = i + 1 ∧ Pl2 h w d qt many { p with chans := cs } rn rc r.2 h' := by
  refine run_q fun Q q => ?_
  have a := b.a
  have n1 : (0 : Int) < (many : Int) - 1 := by omega
  simp [l_law_plan_1, a.e0, a.e2]
  refine run_bind (a.dw.cnext (by omega)) ?_
  rintro _ g1 ⟨one, rfl, ⟨t0, t1⟩, a1, m1⟩
  simp [a.e0, a.e2]
  refine run_bind (a1.cnext n1) ?_
  rintro _ g2 ⟨o2, rfl, ⟨t2, t3⟩, a2, m2⟩
  have mp : 0 < many := by omega
  have hn2 : hg g2 rn = some (.lst (p.names.map W.str)) := (m1.trans m2).get a.hn a.rw
  have hc2 : hg g2 rc = some (.lst (p.chans.map (chanW p))) := (m1.trans m2).get b.hc b.ne.1
  have o0 : 0 ≤ (one + 1 + o2) % (many : Int) := Int.emod_nonneg _ (by omega)
  have o1 : (one + 1 + o2) % (many : Int) < many := Int.emod_lt_of_pos _ (by omega)
  obtain ⟨oa, rfl⟩ := Int.eq_ofNat_of_zero_le t0
  obtain ⟨ob, hob⟩ := Int.eq_ofNat_of_zero_le o0
  have e1 : atW (p.names.map W.str) (oa : Int) = some (.str (p.nm oa)) := by rw [atW_nat, nmW_at (by rw [a.nl]; omega)]
  have e2 : atW (p.names.map W.str) (ob : Int) = some (.str (p.nm ob)) := by rw [atW_nat, nmW_at (by rw [a.nl]; omega)]
  have one_ne : oa ≠ ob := by
    intro z
    subst z
    have : ((oa : Int) + 1 + o2) % (many : Int) = (oa : Int) := hob
    have h3 := Int.emod_add_mul_ediv ((oa : Int) + 1 + o2) many
    rw [this] at h3
    have h4 : (many : Int) * (((oa : Int) + 1 + o2) / many) = 1 + o2 := by omega
    have h5 : 0 < ((oa : Int) + 1 + o2) / (many : Int) := by
      by_cases z : 0 < ((oa : Int) + 1 + o2) / (many : Int)
      · exact z
      · have z : ((oa : Int) + 1 + o2) / (many : Int) ≤ 0 := by omega
        have : (many : Int) * (((oa : Int) + 1 + o2) / many) ≤ 0 := Int.mul_nonpos_of_nonneg_of_nonpos (by omega) z
        omega
    have : (many : Int) * 1 ≤ (many : Int) * (((oa : Int) + 1 + o2) / many) := Int.mul_le_mul_of_nonneg_left h5 (by omega)
    omega
  simp [mp, hob, b.e9, a.e3, hn2, hc2, e1, e2, a.e0, a.e2]
  refine run_bind (a2.cpick' (by simp) (by simp)) ?_
  rintro z g3 ⟨hz, a3, m3⟩
  obtain ⟨room, rfl, hr⟩ : ∃ c : Nat, z = .int c ∧ 1 ≤ c ∧ c ≤ 64 := by
    simp at hz
    rcases hz with z | z | z | z
    · exact ⟨1, z, by omega, by omega⟩
    · exact ⟨2, z, by omega, by omega⟩
    · exact ⟨3, z, by omega, by omega⟩
    · exact ⟨64, z, by omega, by omega⟩
  have hc3 : hg g3 rc = some (.lst (p.chans.map (chanW p))) := m3.get hc2 b.ne.1
  have ll : p.chans.length < 16777216 := by omega
  simp [hc2, hc3, ll]
  have mm := (m1.trans m2).trans m3
  refine q _ _ ⟨rfl, p.chans ++ [(oa, ob, room)], by simp [l], ?_, by simp [b.e9], by simp [hc3, chanW, PlanT.nm], b.rc0, b.ne, fun c hc => ?_⟩
  · exact (a.go (a3.push b.rc0 b.ne.1 b.ne.2.1) (by rw [hg_ne b.ne.2.2, mm.get a.hn a.rw, a.hn]) (fun i hi h4 => by simp [show i ≠ 10 by omega, show i ≠ 11 by omega, show i ≠ 12 by omega])).ch _ _
  · rcases List.mem_append.mp hc with z | z
    · exact b.ch c z
    · simp at z; subst z; exact show oa < many ∧ ob < many ∧ oa ≠ ob ∧ 1 ≤ room ∧ room ≤ 64 from ⟨by omega, by omega, one_ne, hr⟩
theorem plan_h {g : VH} (h1 : 1 ≤ many) (h2 : many ≤ 8) (a : Pl1 h w d qt many p rn env g) :
    Run (evSs (prg.cfg (n + 3)) ((b_law_plan.drop 6).take 2) env g) fun r h' => r.1 = .nx ∧ ∃ cs rc, cs.length ≤ 100 ∧ Pl2 h w d qt many { p with chans := cs, slots := [] } rn rc r.2 h' := by
  refine run_q fun Q q => ?_
  have nrc : nx g 0 ≠ w ∧ nx g 0 ≠ d ∧ nx g 0 ≠ rn := by
    have := a.dw.wok.lt
    have := lt_of_get a.hn
    unfold nx; exact ⟨by omega, by omega, by omega⟩
  have b0 : Pl2 h w d qt many { p with chans := [], slots := [] } rn (nx g 0) (setv env 9 (.ref (nx g 0))) (hn g (.lst [])) :=
    ⟨(a.go (env' := setv env 9 (.ref (nx g 0))) a.dw.new (hg_hn (by rw [a.hn]; rfl)) (fun i hi h4 => by simp [show i ≠ 9 by omega])).ch _ _, by simp, by simp, nx_le a.dw.m.1 0, nrc, by simp⟩
  have loop : ∀ (N : Nat) (g' : VH), N ≤ 8 → (1 < many ∨ N = 0) → Pl2 h w d qt many { p with chans := [], slots := [] } rn (nx g 0) (setv env 9 (.ref (nx g 0))) g' → Run (forK (forF (prg.cfg (n + 3)) (.nm 10) l_law_plan_1) (setv env 9 (.ref (nx g 0))) (.ws (rangeW 0 N)) g') fun r h' => r.1 = .nx ∧ ∃ cs, cs.length ≤ 100 ∧ Pl2 h w d qt many { p with chans := cs, slots := [] } rn (nx g 0) r.2 h' := fun N g' hN hm b => by
    refine (for_all (rangeW 0 N) (fun i env h' => ∃ cs, cs.length = i ∧ Pl2 h w d qt many { p with chans := cs, slots := [] } rn (nx g 0) env h') ⟨[], rfl, b⟩ (fun _ _ _ _ => rfl) (fun i k env h' hw ⟨cs, e1, e2⟩ => ?_)).imp ?_
    · obtain ⟨rfl, lt⟩ := range_at hw
      exact chan_turn (by omega) h2 e2 e1 (by omega)
    · rintro r h' ⟨q1, cs, e1, e2⟩
      rw [range_len] at e1
      exact ⟨q1, cs, by omega, e2⟩
  simp [b_law_plan, a.e2]
  refine run_ite (fun c => ?_) (fun c => ?_)
  · simp [a.e0]
    refine run_bind (b0.a.dw.cpick' (by simp) (by simp)) ?_
    rintro z g3 ⟨hz, a3, m3⟩
    obtain ⟨N, rfl, hN⟩ : ∃ c : Nat, z = .int c ∧ c ≤ 8 := by
      simp at hz
      rcases hz with z | z | z | z | z
      · exact ⟨0, z, by omega⟩
      · exact ⟨2, z, by omega⟩
      · exact ⟨4, z, by omega⟩
      · exact ⟨6, z, by omega⟩
      · exact ⟨8, z, by omega⟩
    have r1 : (N : Int) < 2305843009213693952 := by omega
    simp [r1]
    have b1 : Pl2 h w d qt many { p with chans := [], slots := [] } rn (nx g 0) (setv env 9 (.ref (nx g 0))) g3 := ⟨b0.a.go a3 (by rw [m3.get b0.a.hn b0.a.rw, b0.a.hn]) (fun _ _ _ => rfl), b0.e9, m3.get b0.hc nrc.1, b0.rc0, nrc, b0.ch⟩
    refine run_bind (loop N g3 hN (.inl (by omega)) b1) ?_
    rintro ⟨fl, e'⟩ g4 ⟨rfl, cs, c1, c2⟩
    try simp
    exact q _ _ ⟨rfl, cs, _, c1, c2⟩
  · refine run_bind (loop 0 _ (by omega) (.inr rfl) b0) ?_
    rintro ⟨fl, e'⟩ g4 ⟨rfl, cs, c1, c2⟩
    try simp
    exact q _ _ ⟨rfl, cs, _, c1, c2⟩
end
end Nw

set_option Elab.async false
set_option linter.all false
set_option maxRecDepth 100000
set_option maxHeartbeats 2000000
/-! Plans that are drawn: slots; the whole. -/
namespace Nw
open PySem PySem.Spec PyProof.Rows L2
section
variable {n : Nat} {h0 h h' : VH} {w d : Nat} {qt : Bool} {many : Nat} {p : PlanT} {rn rc : Nat} {env env' : Env}
theorem names_ix (p : PlanT) : p.names.map W.str = (List.range p.names.length).map fun k => W.str (p.nm k) := by
  apply List.ext_getElem?
  intro i
  rw [List.getElem?_map, List.getElem?_map]
  by_cases hi : i < p.names.length
  · rw [p.nm_of hi, List.getElem?_range hi]; rfl
  · rw [List.getElem?_eq_none (by omega), List.getElem?_eq_none (by simp; omega)]; rfl
theorem picks_run {N : Nat} (hN : N ≤ 10) (n0 : 1 ≤ p.names.length) (a : Dw h0 h w d) (hr : hg h rn = some (.lst (p.names.map W.str))) (nw : rn ≠ w) {own : List Nat} (e0 : env 0 = some (.ref w)) (e3 : env 3 = some (.ref rn)) (ho : own = [10]) :
    Run (itK (.ws (rangeW 0 N)) (xlcF (prg.cfg (n + 2)) e_law_plan_3 own (.nm 10) [] env) h) fun acc h' => ∃ ks : List Nat, acc = ks.map (fun k => W.str (p.nm k)) ∧ (∀ k ∈ ks, k < p.names.length) ∧ ks.length = N ∧ Dw h0 h' w d ∧ Mod (· = w) h h' := by
  subst ho
  refine (lc_inv (rangeW 0 N) (fun i acc h' => ∃ ks : List Nat, acc = ks.map (fun k => W.str (p.nm k)) ∧ (∀ k ∈ ks, k < p.names.length) ∧ ks.length = i ∧ Dw h0 h' w d ∧ Mod (· = w) h h') (its := .ws (rangeW 0 N)) ⟨[], rfl, by simp, rfl, a, .rfl⟩ (by rw [range_len]; omega) (fun _ _ _ _ => rfl) (fun i x acc h' hx ⟨ks, e1, e2, e3', e4, e5⟩ => ?_)).imp ?_
  · refine run_q fun Q q => ?_
    simp [e_law_plan_3, e0, e3]
    refine run_bind (e4.cpickR (l := p.names.map W.str) (by simp; intro z; rw [z] at n0; simp at n0) (e5.get hr nw) nw) ?_
    rintro z h2 ⟨hz, a2, m2⟩
    rw [names_ix] at hz
    obtain ⟨k, hk, rfl⟩ := List.mem_map.mp hz
    simp
    refine q _ _ ⟨ks ++ [k], by simp [e1], fun j hj => ?_, by simp [e3'], a2, e5.trans m2⟩
    rcases List.mem_append.mp hj with z | z
    · exact e2 j z
    · simp at z; subst z; exact List.mem_range.mp hk
  · rintro acc h' ⟨⟨ks, e1, e2, e3, e4, e5⟩, _⟩
    exact ⟨ks, e1, e2, by rw [e3, range_len]; omega, e4, e5⟩
theorem slots_run {ro : Nat} {os : List Nat} (hl : os.length ≤ 100) (a : Dw h0 h w d) (hr : hg h ro = some (.lst (os.map fun k => W.str (p.nm k)))) (nw : ro ≠ w) {own : List Nat} (e0 : env 0 = some (.ref w)) (e7 : env 7 = some (ticksW p)) (ho : own = [18]) :
    Run (itK (.live ro) (xlcF (prg.cfg (n + 2)) e_law_plan_4 own (.nm 18) [] env) h) fun acc h' => ∃ ss : List (Nat × Int), acc = ss.map (slotW p) ∧ ss.map (·.1) = os ∧ (∀ s ∈ ss, worstT p ≤ s.2 ∧ s.2 ≤ worstT p + 700) ∧ Dw h0 h' w d ∧ Mod (· = w) h h' := by
  subst ho
  refine (lc_inv (os.map fun k => W.str (p.nm k)) (fun i acc h' => ∃ ss : List (Nat × Int), acc = ss.map (slotW p) ∧ ss.map (·.1) = os.take i ∧ (∀ s ∈ ss, worstT p ≤ s.2 ∧ s.2 ≤ worstT p + 700) ∧ Dw h0 h' w d ∧ Mod (· = w) h h') (its := .live ro) ⟨[], rfl, by simp, by simp, a, .rfl⟩ (by simp; omega) (fun i acc h' ⟨_, _, _, _, _, m⟩ => listAt_of (m.get hr nw)) (fun i x acc h' hx ⟨ss, e1, e2, e3, e4, e5⟩ => ?_)).imp ?_
  · rw [List.getElem?_map] at hx
    cases hs : os[i]? with
    | none => rw [hs] at hx; cases hx
    | some k =>
      rw [hs] at hx
      cases hx
      refine run_q fun Q q => ?_
      simp [e_law_plan_4, e0, e7]
      refine run_bind c_worst ?_
      rintro _ _ ⟨rfl, rfl⟩
      simp [e0]
      refine run_bind (e4.cnext (by omega)) ?_
      rintro _ h2 ⟨v, rfl, ⟨v0, v1⟩, a2, m2⟩
      simp
      refine q _ _ ⟨ss ++ [(k, worstT p + v)], by simp [e1, slotW], ?_, fun s hs => ?_, a2, e5.trans m2⟩
      · rw [List.map_append, e2, List.take_add_one, hs]; rfl
      · rcases List.mem_append.mp hs with z | z
        · exact e3 s z
        · simp at z; subst z; exact show worstT p ≤ worstT p + v ∧ worstT p + v ≤ worstT p + 700 from ⟨by omega, by omega⟩
  · rintro acc h' ⟨⟨ss, e1, e2, e3, e4, e5⟩, _⟩
    exact ⟨ss, e1, by rw [e2, List.length_map, List.take_length], e3, e4, e5⟩
theorem Pl2.go {h1 h2 : VH} (b : Pl2 h w d qt many p rn rc env h1) (w2 : Dw h h2 w d) (m : hg h2 rn = hg h1 rn) (m' : hg h2 rc = hg h1 rc) (e : ∀ i, i < 10 → i ≠ 4 → env' i = env i) : Pl2 h w d qt many p rn rc env' h2 :=
  ⟨b.a.go w2 m (fun i hi => e i (by omega)), by rw [e 9 (by omega) (by omega)]; exact b.e9, by rw [m']; exact b.hc, b.rc0, b.ne, b.ch⟩
theorem plan_o {g : VH} (h1 : 1 ≤ many) (h2 : many ≤ 8) (b : Pl2 h w d qt many p rn rc env g) :
    Run (evSs (prg.cfg (n + 3)) ((b_law_plan.drop 8).take 2) env g) fun r h' => r.1 = .nx ∧ ∃ ro os, Pl2 h w d qt many p rn rc r.2 h' ∧ r.2 14 = some (.ref ro) ∧ hg h' ro = some (.lst (os.map fun k => W.str (p.nm k))) ∧ ro ≠ w ∧ os ≠ [] ∧ os.length ≤ 100 ∧ ∀ k ∈ os, k < many := by
  refine run_q fun Q q => ?_
  have a := b.a
  simp [b_law_plan, a.e0, a.e2]
  refine run_bind (a.dw.cnext (by omega)) ?_
  rintro _ g1 ⟨t, rfl, ⟨t0, t1⟩, a1, m1⟩
  have hn1 := m1.get a.hn a.rw
  have hc1 := m1.get b.hc b.ne.1
  simp [a.e3, hn1]
  have q1 : ¬ rn = nx g1 0 := by have := lt_of_get hn1; unfold nx; omega
  have nl := a.nl
  have c1 : (cut (p.names.map W.str) (some t) none).length ≤ p.names.length := Nat.le_trans cut_len (by simp)
  have c2 : (cut (p.names.map W.str) none (some t)).length ≤ p.names.length := Nat.le_trans cut_len (by simp)
  have c3 : (cut (p.names.map W.str) (some t) none).length + (cut (p.names.map W.str) none (some t)).length ≤ 16777216 := by omega
  obtain ⟨os, eo, o1, o2, o3⟩ : ∃ os : List Nat, cut (p.names.map W.str) (some t) none ++ cut (p.names.map W.str) none (some t) = os.map (fun k => W.str (p.nm k)) ∧ os ≠ [] ∧ os.length ≤ 16 ∧ ∀ k ∈ os, k < p.names.length := by
    refine ⟨cut (List.range p.names.length) (some t) none ++ cut (List.range p.names.length) none (some t), ?_, ?_, ?_, fun k hk => ?_⟩
    · rw [names_ix, cut_map, cut_map, List.map_append]
    · have : (cut (List.range p.names.length) (some t) none).length ≠ 0 := by
        have t2 : ¬ t < 0 := by omega
        simp [cut, HT.sIx, t2]
        omega
      intro z
      rw [List.append_eq_nil_iff] at z
      rw [z.1] at this
      exact this rfl
    · rw [List.length_append]
      have := cut_len (ws := List.range p.names.length) (lo := some t) (hi := none)
      have := cut_len (ws := List.range p.names.length) (lo := none) (hi := some t)
      simp at *
      omega
    · rcases List.mem_append.mp hk with z | z <;> exact List.mem_range.mp (cut_mem z)
  rw [if_pos c3, eo]
  simp [a.e0]
  have ne2 : nx g1 2 ≠ w := by have := a1.wlt; unfold nx; omega
  generalize hX : hn (hn g1 (.lst (cut (p.names.map W.str) (some t) none))) (.lst (cut (p.names.map W.str) none (some t))) = X
  have aX : Dw h X w d := by rw [← hX]; exact a1.new.new
  have kX : ∀ {q : Nat} {o : O}, hg g1 q = some o → hg X q = some o := fun e => by rw [← hX]; exact ((Mod.new (s := no)).trans Mod.new).get e (fun z => z)
  have nX : nx g1 2 = nx X 0 := by rw [← hX]; simp
  have aY : Dw h (hn X (.lst (os.map fun k => W.str (p.nm k)))) w d := aX.new
  have kY : ∀ {q : Nat} {o : O}, hg g1 q = some o → hg (hn X (.lst (os.map fun k => W.str (p.nm k)))) q = some o := fun e => (Mod.new (s := no)).get (kX e) (fun z => z)
  have oY : hg (hn X (.lst (os.map fun k => W.str (p.nm k)))) (nx g1 2) = some (.lst (os.map fun k => W.str (p.nm k))) := by rw [nX]; exact hg_new'
  generalize hn X (.lst (os.map fun k => W.str (p.nm k))) = Y at aY kY oY
  refine run_bind (aY.cnext (by omega)) ?_
  rintro _ g2 ⟨v, rfl, ⟨v0, v1⟩, a2, m2⟩
  obtain ⟨v, rfl⟩ := Int.eq_ofNat_of_zero_le v0
  have r1 : (v : Int) < 2305843009213693952 := by omega
  have hn2 := m2.get (kY hn1) a.rw
  have hc2 := m2.get (kY hc1) b.ne.1
  have ho2 := m2.get oY ne2
  simp [r1]
  refine run_bind (picks_run (n := n + 1) (N := v) (by omega) (by omega) a2 hn2 a.rw (by simp [a.e0]) (by simp [a.e3]) rfl) ?_
  rintro _ g3 ⟨ks, rfl, k1, k2, a3, m3⟩
  have hn3 := m3.get hn2 a.rw
  have hc3 := m3.get hc2 b.ne.1
  have ho3 := m3.get ho2 ne2
  have l4 : ks.length ≤ 16777216 := by omega
  have ne3 : ¬ nx g1 2 = nx g3 0 := by have := lt_of_get ho3; unfold nx at this ⊢; omega
  have l5 : os.length + ks.length ≤ 16777216 := by omega
  simp [l4, ne3, ho3, l5]
  refine q _ _ ⟨rfl, nx g3 1, os ++ ks, ?_, by simp, by simp, by have := a3.wlt; unfold nx; omega, by simp [o1], by simp; omega, fun k hk => ?_⟩
  · refine b.go a3.new.new ?_ ?_ (fun i hi h4 => by simp [show i ≠ 13 by omega, show i ≠ 14 by omega])
    · rw [a.hn]; exact ((Mod.new (s := no)).trans Mod.new).get hn3 (fun z => z)
    · rw [b.hc]; exact ((Mod.new (s := no)).trans Mod.new).get hc3 (fun z => z)
  · rcases List.mem_append.mp hk with z | z
    · have := o3 k z; omega
    · have := k1 k z; omega
/-- the slots' guests and ticks -/
theorem plan_s {g : VH} {ro : Nat} {os : List Nat} (b : Pl2 h w d qt many p rn rc env g) (e14 : env 14 = some (.ref ro)) (ho : hg g ro = some (.lst (os.map fun k => W.str (p.nm k)))) (nw : ro ≠ w) (ol : os.length ≤ 100) :
    Run (evSs (prg.cfg (n + 3)) ((b_law_plan.drop 10).take 1) env g) fun r h' => r.1 = .nx ∧ ∃ ss : List (Nat × Int), Pl2 h w d qt many p rn rc r.2 h' ∧ r.2 15 = some (.tup (ss.map (slotW p))) ∧ ss.map (·.1) = os ∧ ∀ s ∈ ss, worstT p ≤ s.2 ∧ s.2 ≤ worstT p + 700 := by
  refine run_q fun Q q => ?_
  have a := b.a
  simp [b_law_plan, e14, z_itl _ ho]
  refine run_bind (slots_run (n := n + 1) (p := p) ol a.dw ho nw (by simp [a.e0]) (by simp [a.e7]) rfl) ?_
  rintro _ g1 ⟨ss, rfl, s1, s2, a1, m1⟩
  have l1 : ss.length ≤ 16777216 := by
    have := congrArg List.length s1
    simp at this; omega
  simp [l1]
  refine q _ _ ⟨rfl, ss, ?_, by simp, s1, s2⟩
  refine b.go a1.new ?_ ?_ (fun i hi h4 => by simp [show i ≠ 15 by omega])
  · rw [a.hn]; exact (Mod.new (s := no)).get (m1.get a.hn a.rw) (fun z => z)
  · rw [b.hc]; exact (Mod.new (s := no)).get (m1.get b.hc b.ne.1) (fun z => z)
theorem maxes_run (hf : ∀ fs ∈ framesT p, fs ≠ []) (hl : (framesT p).length ≤ 100) {own : List Nat} (ho : own = [19]) :
    Run (itK (.ws ((framesT p).map fun fs => .tup (fs.map W.int))) (xlcF (prg.cfg (n + 2)) e_law_plan_5 own (.nm 19) [] env) h) fun acc h' => acc = ((framesT p).map maxI).map W.int ∧ Mod no h h' := by
  subst ho
  refine (lc_mapx (framesT p) (fun fs => W.tup (fs.map W.int)) (fun fs => .int (maxI fs)) (its := .ws ((framesT p).map fun fs => .tup (fs.map W.int))) rfl (by omega) (fun fs h1 hfs md => ?_)).imp ?_
  rotate_left
  · rintro acc h' ⟨e, m⟩
    exact ⟨by rw [e, List.map_map]; rfl, m⟩
  simp [e_law_plan_5, z_maxt _ fs (hf fs hfs)]
  exact Mod.rfl
theorem z_maxl {r : Nat} {ns : List Int} (e : hg h r = some (.lst (ns.map W.int))) (ne : ns ≠ []) : biW .max [.ref r] h = .ok (.int (maxI ns)) h := by
  show (match intsAt2 h (.ref r) with | some ns => (if ns = [] then _ else _) | none => _) = _
  have : intsAt2 h (.ref r) = some ns := by
    show (match listAt h r with | some ws => intsOf ws | none => none) = _
    rw [listAt_of e]
    exact ints_map ns
  rw [this]
  simp [ne]
theorem plan_e {g : VH} (h1 : 1 ≤ many) (h2 : many ≤ 8) (b : Pl2 h w d qt many p rn rc env g) (cl : p.chans.length ≤ 100) (e15 : env 15 = some (.tup (p.slots.map (slotW p)))) (ne : p.slots ≠ []) (sl : p.slots.length ≤ 100) (sk : ∀ s ∈ p.slots, s.1 < many) (st : ∀ s ∈ p.slots, worstT p ≤ s.2 ∧ s.2 ≤ worstT p + 700) {Q : W → VH → Prop}
    (q : ∀ a h', (∃ p, a = planW p ∧ PlanOk p ∧ p.names.length = many ∧ (qt = true → p.keep ≠ (S [115, 104, 97, 114, 101, 100]) ∧ p.lkeep = (S [102, 108, 117, 115, 104, 101, 100])) ∧ (∀ s ∈ p.slots, s.2 ≤ 1000) ∧ p.slots.length ≤ 100 ∧ Dw h h' w d) → Q a h') :
    Run ((evSs (prg.cfg (n + 3)) (b_law_plan.drop 11) env g).bind retK) Q := by
  have a := b.a
  have s64 := a.sets.2.2
  have nl := a.nl
  have e16 : W.tup [.str (S [112]), .int 0, .tup [.int p.sets, .int p.ways, .str p.keep], .tup [.int p.room, .str p.lkeep], ticksW p, .tup (guestL p), .tup (p.chans.map (chanW p)), .tup (p.slots.map (slotW p))] = planW p := by
    show _ = W.tup [.str p.id, .int p.mem, _, _, _, _, _, _]
    rw [a.id, a.mem]
  have cl' : p.chans.length ≤ 16777216 := by omega
  simp [b_law_plan, a.e5, a.e6, a.e7, a.e8, b.e9, b.hc, e15]
  rw [e16]
  refine run_bind (c_frames (n := n + 2) (p := p) (by rw [nl]; exact a.lm) (by rw [nl]; omega) (by rw [nl]; omega) (fun m hm => by have := a.m0 m hm; omega) (by have := a.sets.1; omega) s64) ?_
  rintro _ g1 ⟨rfl, m1⟩
  have fl : (framesT p).length = many := by rw [framesT_len]; exact a.lm
  have fne : ∀ fs ∈ framesT p, fs ≠ [] := fun fs hfs z => by
    obtain ⟨i, hi⟩ := List.getElem?_of_mem hfs
    obtain ⟨m, hm, hl⟩ := framesT_many p (by rw [a.nl]; exact a.sets.1) (by rw [a.lm, a.nl]) hi
    have := a.m0 m (List.mem_of_getElem? hm)
    rw [z] at hl; simp at hl; omega
  have fle : ∀ fs ∈ framesT p, ∀ f ∈ fs, 0 ≤ f ∧ f < 200 := fun fs hfs f hf => by
    have := framesL_le p (B := 4) (by omega) (fun m hm => (a.m0 m hm).2) p.many 0 0 (fun m hm => (a.m0 m hm).2) fs hfs f hf
    have lm := a.lm
    omega
  simp
  refine run_bind (maxes_run (n := n + 1) (p := p) fne (by omega) rfl) ?_
  rintro _ g2 ⟨rfl, m2⟩
  obtain ⟨ms, hms⟩ : ∃ ms, ms = (framesT p).map maxI := ⟨_, rfl⟩
  have ml : ms.length = many := by rw [hms, List.length_map, fl]
  have mne : ms ≠ [] := by intro z; rw [z] at ml; simp at ml; omega
  have l2 : ms.length ≤ 16777216 := by omega
  have hmx : hg (hn g2 (.lst (ms.map W.int))) (nx g2 0) = some (.lst (ms.map W.int)) := hg_new'
  have aX : Dw h (hn g2 (.lst (ms.map W.int))) w d := a.dw.no ((m1.trans m2).trans Mod.new)
  have mx0 : 0 ≤ maxI ms ∧ maxI ms < 200 ∧ ∀ fs ∈ framesT p, ∀ f ∈ fs, f ≤ maxI ms := by
    obtain ⟨x1, x2⟩ := maxI_spec mne
    rw [hms] at x1 x2
    obtain ⟨fs, hfs, e⟩ := List.mem_map.mp x1
    have y := maxI_spec (fne fs hfs)
    have z := fle fs hfs _ y.1
    rw [← hms] at e x2
    refine ⟨by omega, by omega, fun fs hfs f hf => ?_⟩
    have y := (maxI_spec (fne fs hfs)).2 f hf
    have z := x2 (maxI fs) (by rw [hms]; exact List.mem_map_of_mem hfs)
    omega
  rw [← hms]
  simp [l2, z_maxl hmx mne]
  generalize hn g2 (.lst (ms.map W.int)) = Y at aX
  simp [a.e0]
  refine run_bind (aX.cnext (by omega)) ?_
  rintro _ g3 ⟨v, rfl, ⟨v0, v1⟩, a3, m3⟩
  have c1 : cut (planL p) none (some 1) = [.str p.id] := rfl
  have c2 : cut (planL p) (some 2) none = [.tup [.int p.sets, .int p.ways, .str p.keep], .tup [.int p.room, .str p.lkeep], ticksW p, .tup (guestL p), .tup (p.chans.map (chanW p)), .tup (p.slots.map (slotW p))] := rfl
  simp [c1, c2]
  have tk := a.ticks
  have wl : 1 ≤ worstT p ∧ worstT p ≤ 200 := by unfold worstT mx; repeat (first | omega | split)
  refine q _ _ ⟨{ p with mem := maxI ms + 1 + v }, rfl, ⟨by show 1 ≤ p.names.length; omega, by show p.names.length ≤ 8; omega, nodup_last a.last, by rw [a.lm]; exact nl.symm, fun m hm => by have := a.m0 m hm; omega, by show p.names.length ≤ p.sets / 4 ∧ _; rw [nl]; exact a.sets, a.ways, a.keep, a.room, a.lkeep,
    by show 1 ≤ p.hit ∧ p.hit ≤ p.miss ∧ p.miss ≤ 1000 ∧ 1 ≤ p.look ∧ p.look ≤ 1000 ∧ 1 ≤ p.fault ∧ p.fault ≤ 1000; omega, fun c hc => by rw [show ({ p with mem := maxI ms + 1 + v } : PlanT).names.length = many from nl]; exact b.ch c hc, cl,
    fun s hs => ⟨by rw [show ({ p with mem := maxI ms + 1 + v } : PlanT).names.length = many from nl]; exact sk s hs, (st s hs).1, by have := (st s hs).2; omega⟩, ne, by show p.slots.length ≤ 1000; omega, fun fs hfs f hf => ?_, by show maxI ms + 1 + v ≤ 10000; omega⟩, nl, a.quiet, fun s hs => by have := (st s hs).2; omega, sl, a3⟩
  have e : framesT p = framesT { p with mem := maxI ms + 1 + v } := framesL_eq (p := p) (q := { p with mem := maxI ms + 1 + v }) rfl rfl rfl _ _ _
  have := mx0.2.2 fs (by rw [e]; exact hfs) f hf
  show f < maxI ms + 1 + v
  omega
theorem c_plan (h1 : 1 ≤ many) (h2 : many ≤ 8) (a : WOk h w d) : Run (prg.call (n + 4) f_law_plan [.ref w, .bl qt, .int many] h) fun r h' => ∃ p, r = planW p ∧ PlanOk p ∧ p.names.length = many ∧ (qt = true → p.keep ≠ (S [115, 104, 97, 114, 101, 100]) ∧ p.lkeep = (S [102, 108, 117, 115, 104, 101, 100])) ∧ (∀ s ∈ p.slots, s.2 ≤ 1000) ∧ p.slots.length ≤ 100 ∧ WOk h' w d ∧ Mod (· = w) h h' := by
  refine run_q fun Q q => ?_
  rw [u_law_plan]
  refine run_cut 1 (fun env h' => ∃ ns rn, Pl0 h w d qt many ns rn env h') (plan_0 h1 h2 a) fun env g1 ⟨ns, rn, b1⟩ => ?_
  refine run_cut 1 (fun env h' => ∃ k, Plk h w d qt many ns rn k env h') (plan_k b1) fun env g2 ⟨k, b2⟩ => ?_
  refine run_cut 2 (fun env h' => ∃ s ways room lk, Plc h w d qt many ns rn k s ways room lk env h') (plan_c h1 h2 b2) fun env g3 ⟨s, ways, room, lk, b3⟩ => ?_
  refine run_cut 2 (fun env h' => ∃ p, Pl1 h w d qt many p rn env h') (plan_g h1 h2 b3) fun env g4 ⟨p, b4⟩ => ?_
  refine run_cut 2 (fun env h' => ∃ cs rc, cs.length ≤ 100 ∧ Pl2 h w d qt many { p with chans := cs, slots := [] } rn rc env h') (plan_h h1 h2 b4) fun env g5 ⟨cs, rc, b5, b6⟩ => ?_
  refine run_cut 2 (fun env h' => ∃ ro os, Pl2 h w d qt many { p with chans := cs, slots := [] } rn rc env h' ∧ env 14 = some (.ref ro) ∧ hg h' ro = some (.lst (os.map fun k => W.str (({ p with chans := cs, slots := [] } : PlanT).nm k))) ∧ ro ≠ w ∧ os ≠ [] ∧ os.length ≤ 100 ∧ ∀ k ∈ os, k < many) (plan_o h1 h2 b6) fun env g6 ⟨ro, os, b7, o1, o2, o3, o4, o5, o6⟩ => ?_
  refine run_cut 1 (fun env h' => ∃ ss : List (Nat × Int), Pl2 h w d qt many { p with chans := cs, slots := [] } rn rc env h' ∧ env 15 = some (.tup (ss.map (slotW { p with chans := cs, slots := [] }))) ∧ ss.map (·.1) = os ∧ ∀ s ∈ ss, worstT { p with chans := cs, slots := [] } ≤ s.2 ∧ s.2 ≤ worstT { p with chans := cs, slots := [] } + 700) (plan_s b7 o1 o2 o3 o5) fun env g7 ⟨ss, b8, s1, s2, s3⟩ => ?_
  have sl : ss.length = os.length := by rw [← s2, List.length_map]
  refine plan_e (p := { p with chans := cs, slots := ss }) h1 h2 ⟨b8.a.ch cs ss, b8.e9, b8.hc, b8.rc0, b8.ne, b8.ch⟩ b5 s1 (fun z => o4 (by have z : ss = [] := z; rw [← s2, z]; rfl)) (by show ss.length ≤ 100; omega) (fun s hs => o6 _ (by rw [← s2]; exact List.mem_map_of_mem hs)) s3 fun a h' ⟨p, e1, e2, e3, e4, e5, e6, e7⟩ => q _ _ ⟨p, e1, e2, e3, e4, e5, e6, e7.wok, e7.m⟩
end
end Nw

set_option Elab.async false
set_option linter.all false
set_option maxRecDepth 100000
set_option maxHeartbeats 2000000
/-! The laws' own system: how it stands in the heap. -/
namespace Nw
open PySem PySem.Spec PyProof.Rows L2
inductive Rl where
  | y | sets | set (i : Nat) | pairs | own | waits | wt (k : Nat) | names | m (g : Nat) | mem (g : Nat) | regs (g : Nat) | deeds (g : Nat) | met (g : Nat) | inn (g : Nat) | frm (g : Nat) | to (g : Nat)
  deriving DecidableEq
structure YSt where
  clock : Int
  slot : Nat
  sh : SH
  ch : CH
  own : List LS
def pairW (q : (Int × Int) × Int) : W := .tup [.tup [.int q.1.1, .int q.1.2], .int q.2]
def innW (q : Int × Int) : W := .tup [.int q.1, .int q.2]
def extL (adr : Rl → Nat) (g : Nat) (G : GD) (s : LS) : List (Key × W) :=
  [(.inr (S [103]), .int G.num), (.inr (S [102, 114, 97, 109, 101, 115]), .tup (G.frames.map W.int)), (.inr (S [105, 110]), .ref (adr (.inn g))), (.inr (S [99, 97, 109, 101]), .bl s.came), (.inr (S [102, 114, 111, 109]), .ref (adr (.frm g))), (.inr (S [116, 111]), .ref (adr (.to g)))]
def extE (adr : Rl → Nat) (g : Nat) (G : GD) (s : LS) : Ext := ⟨extL adr g G s, by simp [extL], by simp [extL]⟩
def mgO (adr : Rl → Nat) (g : Nat) (G : GD) (s : LS) : MG := ⟨G.code, G.base, s.ans, extE adr g G s⟩
def mDO (adr : Rl → Nat) (g : Nat) (G : GD) (s : LS) : List (Key × W) := mD (mgO adr g G s) (adr (.mem g)) (adr (.regs g)) (adr (.deeds g)) (adr (.met g)) s.M
def yD (p : PlanT) (adr : Rl → Nat) (c : Int) (sl : Nat) : List (Key × W) :=
  [(.inr (S [112, 108, 97, 110]), planW p), (.inr (S [99, 108, 111, 99, 107]), .int c), (.inr (S [115, 108, 111, 116]), .int sl), (.inr (S [115, 101, 116, 115]), .ref (adr .sets)), (.inr (S [112, 97, 105, 114, 115]), .ref (adr .pairs)), (.inr (S [111, 119, 110]), .ref (adr .own)), (.inr (S [119, 97, 105, 116, 115]), .ref (adr .waits)), (.inr (S [110, 97, 109, 101, 115]), .ref (adr .names))]
def refsW {α : Type} (l : List α) (f : Nat → Nat) : List W := (List.range l.length).map fun i => .ref (f i)
def intsO (l : List Int) : O := .lst (l.map W.int)
def objs (p : PlanT) (Gs : List GD) (adr : Rl → Nat) (Y : YSt) : Rl → Option O
  | .y => some (.dct (yD p adr Y.clock Y.slot))
  | .sets => some (.lst (refsW Y.sh.sets fun i => adr (.set i)))
  | .set i => Y.sh.sets[i]?.map intsO
  | .pairs => some (.lst (Y.sh.pairs.map pairW))
  | .own => some (.lst (refsW Y.own fun g => adr (.m g)))
  | .waits => some (.lst (refsW Y.ch fun k => adr (.wt k)))
  | .wt k => Y.ch[k]?.map intsO
  | .names => some (.lst (p.names.map W.str))
  | .m g => match Y.own[g]?, Gs[g]? with | some s, some G => some (.dct (mDO adr g G s)) | _, _ => none
  | .mem g => Y.own[g]?.map fun s => intsO s.M.mem
  | .regs g => Y.own[g]?.map fun s => intsO s.M.regs
  | .deeds g => Y.own[g]?.map fun s => .lst s.M.deeds
  | .met g => Y.own[g]?.map fun s => .lst s.M.met
  | .inn g => Y.own[g]?.map fun s => .lst (s.inn.map innW)
  | .frm g => Gs[g]?.map fun G => intsO (G.frm.map fun k => ((k : Nat) : Int))
  | .to g => Gs[g]?.map fun G => intsO (G.to.map fun k => ((k : Nat) : Int))
structure YR (L : Nat) (p : PlanT) (Gs : List GD) (h : VH) (adr : Rl → Nat) (Y : YSt) : Prop where
  v : View h adr (objs p Gs adr Y)
  low : ∀ x, (objs p Gs adr Y x).isSome = true → L ≤ adr x
abbrev Hi (L : Nat) : Nat → Prop := fun q => L ≤ q
section
variable (adr : Rl → Nat) (g : Nat) (G : GD) (s : LS)
@[simp high] theorem mo_g : dget (mDO adr g G s) (.inr (S [103])) = some (.int G.num) := by simp [mDO, mD, mgO, extE, extL]
@[simp high] theorem mo_frames : dget (mDO adr g G s) (.inr (S [102, 114, 97, 109, 101, 115])) = some (.tup (G.frames.map W.int)) := by simp [mDO, mD, mgO, extE, extL]
@[simp high] theorem mo_in : dget (mDO adr g G s) (.inr (S [105, 110])) = some (.ref (adr (.inn g))) := by simp [mDO, mD, mgO, extE, extL]
@[simp high] theorem mo_came : dget (mDO adr g G s) (.inr (S [99, 97, 109, 101])) = some (.bl s.came) := by simp [mDO, mD, mgO, extE, extL]
@[simp high] theorem mo_from : dget (mDO adr g G s) (.inr (S [102, 114, 111, 109])) = some (.ref (adr (.frm g))) := by simp [mDO, mD, mgO, extE, extL]
@[simp high] theorem mo_to : dget (mDO adr g G s) (.inr (S [116, 111])) = some (.ref (adr (.to g))) := by simp [mDO, mD, mgO, extE, extL]
@[simp high] theorem mo_code : dget (mDO adr g G s) (.inr (S [99, 111, 100, 101])) = some (.tup (G.code.map insW)) := by simp [mDO, mgO, codeW]
@[simp high] theorem mo_mem : dget (mDO adr g G s) (.inr (S [109, 101, 109, 111, 114, 121])) = some (.ref (adr (.mem g))) := by simp [mDO]
@[simp high] theorem mo_base : dget (mDO adr g G s) (.inr (S [98, 97, 115, 101])) = some (.int G.base) := by simp [mDO, mgO]
@[simp high] theorem mo_regs : dget (mDO adr g G s) (.inr (S [114, 101, 103, 115])) = some (.ref (adr (.regs g))) := by simp [mDO]
@[simp high] theorem mo_at : dget (mDO adr g G s) (.inr (S [97, 116])) = some (.int s.M.at_) := by simp [mDO]
@[simp high] theorem mo_deeds : dget (mDO adr g G s) (.inr (S [100, 101, 101, 100, 115])) = some (.ref (adr (.deeds g))) := by simp [mDO]
@[simp high] theorem mo_word : dget (mDO adr g G s) (.inr (S [119, 111, 114, 100])) = some (.str s.M.word) := by simp [mDO]
@[simp high] theorem mo_len : ((mDO adr g G s).length < 16777216) = True := by simp [mDO]
@[simp high] theorem mos_came (b : Bool) : dset (mDO adr g G s) (.inr (S [99, 97, 109, 101])) (.bl b) = mDO adr g G { s with came := b } := by
  simp [mDO, mD, mgO, extE, extL, codeW]
@[simp high] theorem mos_at (v : Int) : dset (mDO adr g G s) (.inr (S [97, 116])) (.int v) = mDO adr g G { s with M := { s.M with at_ := v } } := by simp [mDO]; rfl
@[simp high] theorem mos_word (v : Str) : dset (mDO adr g G s) (.inr (S [119, 111, 114, 100])) (.str v) = mDO adr g G { s with M := { s.M with word := v } } := by simp [mDO]; rfl
@[simp high] theorem mos_ans (v : Int) : dset (mDO adr g G s) (.inr (S [97, 110, 115, 119, 101, 114, 115])) (.tup [.int v]) = mDO adr g G { s with ans := [v] } := by
  simp [mDO, mD, mgO, extE, extL, codeW]
@[simp high] theorem mos_given : dset (mDO adr g G s) (.inr (S [103, 105, 118, 101, 110])) (.int 0) = mDO adr g G { s with M := { s.M with given := 0 } } := by
  simp [mDO, mD, mgO, extE, extL, codeW]
end
section
variable (p : PlanT) (adr : Rl → Nat) (c : Int) (sl : Nat)
@[simp high] theorem yd_plan : dget (yD p adr c sl) (.inr (S [112, 108, 97, 110])) = some (planW p) := by simp [yD]
@[simp high] theorem yd_clock : dget (yD p adr c sl) (.inr (S [99, 108, 111, 99, 107])) = some (.int c) := by simp [yD]
@[simp high] theorem yd_slot : dget (yD p adr c sl) (.inr (S [115, 108, 111, 116])) = some (.int sl) := by simp [yD]
@[simp high] theorem yd_sets : dget (yD p adr c sl) (.inr (S [115, 101, 116, 115])) = some (.ref (adr .sets)) := by simp [yD]
@[simp high] theorem yd_pairs : dget (yD p adr c sl) (.inr (S [112, 97, 105, 114, 115])) = some (.ref (adr .pairs)) := by simp [yD]
@[simp high] theorem yd_own : dget (yD p adr c sl) (.inr (S [111, 119, 110])) = some (.ref (adr .own)) := by simp [yD]
@[simp high] theorem yd_waits : dget (yD p adr c sl) (.inr (S [119, 97, 105, 116, 115])) = some (.ref (adr .waits)) := by simp [yD]
@[simp high] theorem yd_names : dget (yD p adr c sl) (.inr (S [110, 97, 109, 101, 115])) = some (.ref (adr .names)) := by simp [yD]
@[simp high] theorem yd_len : ((yD p adr c sl).length < 16777216) = True := by simp [yD]
def mv (adr : Rl → Nat) (x : Rl) (a : Nat) : Rl → Nat := fun z => if z = x then a else adr z
@[simp high] theorem yds_pairs (a : Nat) : dset (yD p adr c sl) (.inr (S [112, 97, 105, 114, 115])) (.ref a) = yD p (mv adr .pairs a) c sl := by simp [yD, mv]
@[simp high] theorem yds_sets (a : Nat) : dset (yD p adr c sl) (.inr (S [115, 101, 116, 115])) (.ref a) = yD p (mv adr .sets a) c sl := by simp [yD, mv]
@[simp high] theorem yds_clock (v : Int) : dset (yD p adr c sl) (.inr (S [99, 108, 111, 99, 107])) (.int v) = yD p adr v sl := by simp [yD]
@[simp high] theorem yds_slot : dset (yD p adr c sl) (.inr (S [115, 108, 111, 116])) (.int ((sl : Int) + 1)) = yD p adr c (sl + 1) := by simp [yD]
end
/-! ### what changes -/
def YSt.up (Y : YSt) (g : Nat) (s : LS) : YSt := { Y with own := Y.own.set g s }
theorem set_at {α : Type} {l : List α} {g : Nat} {a b : α} (h : l[g]? = some a) (i : Nat) : (l.set g b)[i]? = if i = g then some b else l[i]? := by
  have := (List.getElem?_eq_some_iff.mp h).1
  by_cases c : i = g
  · subst c; rw [if_pos rfl, List.getElem?_set_self this]
  · rw [if_neg c, List.getElem?_set_ne (fun z => c z.symm)]
section
variable {L : Nat} {p : PlanT} {Gs : List GD} {h h' : VH} {adr : Rl → Nat} {Y : YSt} {g : Nat} {G : GD} {s s' : LS}
theorem up_at (hs : Y.own[g]? = some s) : (Y.up g s').own[g]? = some s' := by unfold YSt.up; simp only; rw [set_at hs, if_pos rfl]
theorem refs_up (f : Nat → Nat) : refsW (Y.up g s').own f = refsW Y.own f := by unfold refsW YSt.up; simp
/-- the entries of a guest's dict -/
theorem ob_m (hs : Y.own[g]? = some s) (hG : Gs[g]? = some G) (e1 : s'.M.mem = s.M.mem) (e2 : s'.M.regs = s.M.regs) (e3 : s'.M.deeds = s.M.deeds) (e4 : s'.M.met = s.M.met) (e5 : s'.inn = s.inn) (x : Rl) :
    objs p Gs adr (Y.up g s') x = if x = .m g then some (.dct (mDO adr g G s')) else objs p Gs adr Y x := by
  cases x with
  | m i =>
    simp only [objs, YSt.up, set_at hs, Rl.m.injEq]
    by_cases c : i = g
    · subst c; simp [hG]
    · simp [c]
  | mem i | regs i | deeds i | met i | inn i =>
    simp only [objs, YSt.up, set_at hs]
    by_cases c : i = g
    · subst c; simp [hs, e1, e2, e3, e4, e5]
    · simp [c]
  | own => simp [objs, refs_up]
  | _ => simp [objs, YSt.up]
/-- the pages that are in -/
theorem ob_inn (hs : Y.own[g]? = some s) (l : List (Int × Int)) (x : Rl) :
    objs p Gs adr (Y.up g { s with inn := l }) x = if x = .inn g then some (.lst (l.map innW)) else objs p Gs adr Y x := by
  cases x with
  | m i =>
    simp only [objs, YSt.up, set_at hs]
    by_cases c : i = g
    · subst c; simp only [if_pos, hs]; cases Gs[i]? <;> rfl
    · simp [c]
  | mem i | regs i | deeds i | met i | inn i =>
    simp only [objs, YSt.up, set_at hs]
    by_cases c : i = g
    · subst c; simp [hs]
    · simp [c]
  | own => simp [objs, refs_up]
  | _ => simp [objs, YSt.up]
/-- the pairs, anew -/
theorem ob_pairs (a : Nat) (l : List ((Int × Int) × Int)) (x : Rl) :
    objs p Gs (mv adr .pairs a) { Y with sh := { Y.sh with pairs := l } } x = if x = .y then some (.dct (yD p (mv adr .pairs a) Y.clock Y.slot)) else if x = .pairs then some (.lst (l.map pairW)) else objs p Gs adr Y x := by
  cases x with
  | m i =>
    simp only [objs]
    cases Y.own[i]? <;> cases Gs[i]? <;> rfl
  | _ => simp [objs, mv]
theorem refsW_set {α : Type} {l : List α} {i : Nat} {f : Nat → Nat} {a : Nat} {b : α} (hi : i < l.length) : (refsW l f).set i (.ref a) = refsW (l.set i b) fun j => if j = i then a else f j := by
  unfold refsW
  apply List.ext_getElem?
  intro j
  rw [List.getElem?_set]
  simp only [List.length_map, List.length_range, List.length_set]
  by_cases c : i = j
  · subst c
    rw [if_pos rfl, if_pos hi, List.getElem?_map, List.getElem?_range hi]
    simp
  · rw [if_neg c, List.getElem?_map, List.getElem?_map]
    cases hj : (List.range l.length)[j]? with
    | none => rfl
    | some k =>
      have := (List.getElem?_eq_some_iff.mp hj).2
      simp at this
      subst this
      have c' : ¬ j = i := fun z => c z.symm
      simp [c']
/-- a set, anew -/
theorem ob_set {i : Nat} (hi : i < Y.sh.sets.length) (a : Nat) (l : List Int) (x : Rl) :
    objs p Gs (mv adr (.set i) a) { Y with sh := { Y.sh with sets := Y.sh.sets.set i l } } x = if x = .sets then some (.lst ((refsW Y.sh.sets fun j => adr (.set j)).set i (.ref a))) else if x = .set i then some (intsO l) else objs p Gs adr Y x := by
  cases x with
  | m k =>
    simp only [objs]
    cases Y.own[k]? <;> cases Gs[k]? <;> rfl
  | sets =>
    simp only [objs, if_true]
    rw [refsW_set hi (b := l)]
    congr 3
    funext j
    unfold mv
    simp only [Rl.set.injEq]
  | set j =>
    simp only [objs, Rl.set.injEq]
    rw [set_at (List.getElem?_eq_getElem hi)]
    by_cases c : j = i
    · simp [c]
    · simp [c]
  | _ => simp [objs, mv, yD]
/-- a channel's words, anew -/
theorem ob_wt {i : Nat} (hi : i < Y.ch.length) (a : Nat) (l : List Int) (x : Rl) :
    objs p Gs (mv adr (.wt i) a) { Y with ch := Y.ch.set i l } x = if x = .waits then some (.lst ((refsW Y.ch fun j => adr (.wt j)).set i (.ref a))) else if x = .wt i then some (intsO l) else objs p Gs adr Y x := by
  cases x with
  | m k =>
    simp only [objs]
    cases Y.own[k]? <;> cases Gs[k]? <;> rfl
  | waits =>
    simp only [objs, if_true]
    rw [refsW_set hi (b := l)]
    congr 3
    funext j
    unfold mv
    simp only [Rl.wt.injEq]
  | wt j =>
    simp only [objs, Rl.wt.injEq]
    rw [set_at (List.getElem?_eq_getElem hi)]
    by_cases c : j = i
    · simp [c]
    · simp [c]
  | _ => simp [objs, mv, yD]
/-- a channel's words, in their place -/
theorem ob_wt0 {i : Nat} (hi : i < Y.ch.length) (l : List Int) (x : Rl) :
    objs p Gs adr { Y with ch := Y.ch.set i l } x = if x = .wt i then some (intsO l) else objs p Gs adr Y x := by
  cases x with
  | wt j =>
    simp only [objs, Rl.wt.injEq]
    rw [set_at (List.getElem?_eq_getElem hi)]
    by_cases c : j = i
    · simp [c]
    · simp [c]
  | waits => simp [objs, refsW]
  | _ => simp [objs]
theorem ob_y (c : Int) (sl : Nat) (x : Rl) : objs p Gs adr { Y with clock := c, slot := sl } x = if x = .y then some (.dct (yD p adr c sl)) else objs p Gs adr Y x := by
  cases x <;> simp [objs]
/-- where a role stands, its object is -/
theorem YR.at (r : YR L p Gs h adr Y) (x : Rl) {o : O} (e : objs p Gs adr Y x = some o) : hg h (adr x) = some o := r.v.get x o e
theorem YR.mod {t : Nat → Prop} (r : YR L p Gs h adr Y) (m : Mod t h h') (n : ∀ q, L ≤ q → q < h.length → ¬ t q) : YR L p Gs h' adr Y :=
  ⟨r.v.mod m fun x hx => n _ (r.low x hx) (r.v.lt hx), r.low⟩
theorem YR.mno (r : YR L p Gs h adr Y) (m : Mod no h h') : YR L p Gs h' adr Y := r.mod m fun _ _ _ z => z
/-- an object is written -/
theorem YR.set {x : Rl} {o : O} {Y' : YSt} (r : YR L p Gs h adr Y) (hx : (objs p Gs adr Y x).isSome = true) (e : ∀ z, objs p Gs adr Y' z = if z = x then some o else objs p Gs adr Y z) : YR L p Gs (hs h (adr x) o) adr Y' ∧ Mod (Hi L) h (hs h (adr x) o) :=
  ⟨⟨r.v.set hx e, fun z hz => by
    rw [e] at hz
    split at hz
    · rename_i c; subst c; exact r.low _ hx
    · exact r.low z hz⟩, Mod.set (r.low x hx)⟩
/-- a role gets an object that stands elsewhere, and the one that names it is written -/
theorem YR.renew {x u : Rl} {a : Nat} {o ou : O} {Y' : YSt} (r : YR L p Gs h adr Y) (ne : u ≠ x) (hu : (objs p Gs adr Y u).isSome = true) (ha : hg h a = some o) (fr : ∀ z, (objs p Gs adr Y z).isSome = true → adr z ≠ a) (la : L ≤ a)
    (e : ∀ z, objs p Gs (mv adr x a) Y' z = if z = u then some ou else if z = x then some o else objs p Gs adr Y z) : YR L p Gs (hs h (adr u) ou) (mv adr x a) Y' ∧ Mod (Hi L) h (hs h (adr u) ou) := by
  have live : ∀ z, z ≠ x → (objs p Gs (mv adr x a) Y' z).isSome = true → (objs p Gs adr Y z).isSome = true := fun z hz hs => by
    rw [e] at hs
    split at hs
    · rename_i c; rw [c]; exact hu
    · exact hs
  have au : mv adr x a u = adr u := by unfold mv; rw [if_neg ne]
  obtain ⟨o0, e0⟩ := Option.isSome_iff_exists.mp hu
  refine ⟨⟨⟨fun z o' hz => ?_, fun z t hz ht => ?_⟩, fun z hz => ?_⟩, Mod.set (r.low u hu)⟩
  · rw [e] at hz
    by_cases cu : z = u
    · subst cu
      rw [if_pos rfl] at hz; cases hz
      rw [au]; exact hg_hs (by rw [r.v.get _ _ e0]; rfl)
    · rw [if_neg cu] at hz
      by_cases cx : z = x
      · subst cx
        rw [if_pos rfl] at hz; cases hz
        show hg _ (if z = z then a else _) = _
        rw [if_pos rfl, hg_ne (fr u hu)]; exact ha
      · rw [if_neg cx] at hz
        show hg _ (if z = x then a else _) = _
        rw [if_neg cx, hg_ne (fun q => cu (r.v.inj _ _ (by rw [hz]; rfl) hu q.symm))]
        exact r.v.get z o' hz
  · show (if z = x then a else adr z) = (if t = x then a else adr t) → z = t
    by_cases c1 : z = x
    · by_cases c2 : t = x
      · intro _; rw [c1, c2]
      · rw [if_pos c1, if_neg c2]; intro q; exact absurd q.symm (fr t (live t c2 ht))
    · by_cases c2 : t = x
      · rw [if_neg c1, if_pos c2]; intro q; exact absurd q (fr z (live z c1 hz))
      · rw [if_neg c1, if_neg c2]; exact r.v.inj z t (live z c1 hz) (live t c2 ht)
  · show L ≤ (if z = x then a else adr z)
    split
    · exact la
    · rename_i c; exact r.low z (live z c hz)
theorem fresh_ne (r : YR L p Gs h adr Y) {a : Nat} (la : h.length ≤ a) : ∀ z, (objs p Gs adr Y z).isSome = true → adr z ≠ a := fun z hz q => by
  have := r.v.lt hz
  omega
end
end Nw

set_option Elab.async false
set_option linter.all false
set_option maxRecDepth 100000
set_option maxHeartbeats 2000000
/-! The laws' own system: a page comes. -/
namespace Nw
open PySem PySem.Spec PyProof.Rows L2
/-- how small all is -/
structure Sml (P : PD) (Gs : List GD) (Y : YSt) : Prop where
  nset : Y.sh.sets.length = P.nset
  n0 : 0 < P.nset
  n1 : P.nset ≤ 64
  set : ∀ l ∈ Y.sh.sets, l.length ≤ 4
  pairs : Y.sh.pairs.length ≤ P.room
  room : 1 ≤ P.room ∧ P.room ≤ 16
  ways : 1 ≤ P.ways ∧ P.ways ≤ 4
  rooms : P.rooms.length = Y.ch.length
  room1 : ∀ r ∈ P.rooms, 1 ≤ r ∧ r ≤ 64
  ch : ∀ (k : Nat) (l : List Int), Y.ch[k]? = some l → l.length ≤ P.rooms[k]?.getD 0
  gs : Gs.length = Y.own.length
/-- how small a guest's frames are -/
structure SmG (G : GD) (s : LS) : Prop where
  fr : ∀ f ∈ G.frames, 0 ≤ f ∧ f < 100000
  f0 : 2 ≤ G.frames.length
  f1 : G.frames.length ≤ 64
  inn : s.inn.length ≤ G.frames.length
  ok : InnOk G s.inn
section
variable {n : Nat} {L : Nat} {p : PlanT} {P : PD} {Gs : List GD} {h h' : VH} {adr : Rl → Nat} {Y : YSt} {g : Nat} {G : GD} {s s' : LS}
def pdOf (p : PlanT) : PD := ⟨p.sets, p.ways, decide (p.keep = (S [102, 108, 117, 115, 104, 101, 100])), p.room, decide (p.lkeep = (S [102, 108, 117, 115, 104, 101, 100])), p.hit, p.miss, p.look, p.fault, p.chans.map (·.2.2)⟩
/-- all but the sets and pairs stay where they are -/
def Kp1 (adr adr' : Rl → Nat) : Prop := ∀ x, (∀ i, x ≠ .set i) → x ≠ .pairs → x ≠ .sets → (∀ i, x ≠ .wt i) → (∀ i, x ≠ .deeds i) → adr' x = adr x
theorem Kp1.rfl : Kp1 adr adr := fun _ _ _ _ _ _ => Eq.refl _
theorem Kp1.trans {a b c : Rl → Nat} (x : Kp1 a b) (y : Kp1 b c) : Kp1 a c := fun z h1 h2 h3 h4 h5 => (y z h1 h2 h3 h4 h5).trans (x z h1 h2 h3 h4 h5)
theorem Kp1.pairs (a : Nat) : Kp1 adr (mv adr .pairs a) := fun x _ h _ _ _ => by unfold mv; rw [if_neg h]
theorem Kp1.set (i a : Nat) : Kp1 adr (mv adr (.set i) a) := fun x h _ _ _ _ => by unfold mv; rw [if_neg (h i)]
theorem Kp1.wt (i a : Nat) : Kp1 adr (mv adr (.wt i) a) := fun x _ _ _ h _ => by unfold mv; rw [if_neg (h i)]
theorem refsW_at {α : Type} {l : List α} {f : Nat → Nat} {i : Nat} (h : i < l.length) : (refsW l f)[i]? = some (.ref (f i)) := by
  unfold refsW
  rw [List.getElem?_map, List.getElem?_range h]
  rfl
theorem refsW_len {α : Type} {l : List α} {f : Nat → Nat} : (refsW l f).length = l.length := by simp [refsW]
theorem ints_sim (l : List Int) : (l.map W.int).all (simW 50) = true := by simp
/-- the lines of a frame are dropped, one by one -/
theorem drop_turn {env : Env} {line : Int} (r : YR L p Gs h adr Y) (sm : Sml P Gs Y) (e5 : env 5 = some (.int (P.nset : Nat))) (e6 : env 6 = some (.ref (adr .sets))) (l0 : 0 ≤ line) :
    Run (forF (prg.cfg n) (.nm 7) l_law_bring_1 (.int line) env h) fun q h' => q.1 = .nx ∧ q.2 = setv env 7 (.int line) ∧ ∃ adr', YR L p Gs h' adr' { Y with sh := { Y.sh with sets := dropL P.nset Y.sh.sets line } } ∧ Kp1 adr adr' ∧ adr' .sets = adr .sets ∧ Mod (Hi L) h h' := by
  refine run_q fun Q q => ?_
  have n0 := sm.n0
  have hk : setAt P.nset line < Y.sh.sets.length := by
    rw [sm.nset]; unfold setAt
    have := Int.emod_lt_of_pos line (show (0 : Int) < P.nset by omega)
    have := Int.emod_nonneg line (show (P.nset : Int) ≠ 0 by omega)
    omega
  have ek : line % (P.nset : Int) = ((setAt P.nset line : Nat) : Int) := by
    unfold setAt
    have := Int.emod_nonneg line (show (P.nset : Int) ≠ 0 by omega)
    omega
  have h1 : hg h (adr .sets) = some (.lst (refsW Y.sh.sets fun i => adr (.set i))) := r.at .sets rfl
  have e1 : Y.sh.sets[setAt P.nset line]? = some (chAt Y.sh.sets (setAt P.nset line)) := by unfold chAt; rw [List.getElem?_eq_getElem hk]; rfl
  have h2 : hg h (adr (.set (setAt P.nset line))) = some (intsO (chAt Y.sh.sets (setAt P.nset line))) := r.at (.set _) (by simp [objs, e1])
  have lb : (chAt Y.sh.sets (setAt P.nset line)).length ≤ 4 := sm.set _ (List.mem_of_getElem? e1)
  generalize hkk : setAt P.nset line = k at *
  have ea : atW (refsW Y.sh.sets fun i => adr (.set i)) ((k : Nat) : Int) = some (.ref (adr (.set k))) := by rw [atW_nat, refsW_at hk]
  simp [l_law_bring_1, e5, e6, n0, ek, h1, ea, z_itl _ h2]
  refine run_bind (lc_filx (chAt Y.sh.sets k) W.int (fun v => if v ≠ line then some (.int v) else none) (its := .live (adr (.set k))) (listAt_of h2) (by omega) (fun v h1 hv md => ?_)) ?_
  · simp [e_law_bring_2, t_law_bring_2]
    refine run_ite (fun c => ?_) (fun c => ?_)
    · simp [c]; exact Mod.rfl
    · simp [c]; exact Mod.rfl
  rintro _ h3 ⟨rfl, m3⟩
  have fl : (chAt Y.sh.sets k).filterMap (fun v => if v ≠ line then some (W.int v) else none) = ((chAt Y.sh.sets k).filter fun x => decide (x ≠ line)).map W.int := by
    induction chAt Y.sh.sets k with
    | nil => rfl
    | cons a l ih =>
      rw [List.filterMap_cons, List.filter_cons]
      by_cases c : a ≠ line
      · rw [if_pos c]; simp only [c, decide_true, if_true, List.map_cons, ih, ne_eq, not_false_eq_true]
      · rw [if_neg c]; simp only [c, decide_false, Bool.false_eq_true, if_false, ih]
  rw [fl]
  have ll : ((chAt Y.sh.sets k).filter fun x => decide (x ≠ line)).length ≤ 16777216 := Nat.le_trans (List.length_filter_le _ _) (by omega)
  have kl : k < (refsW Y.sh.sets fun i => adr (.set i)).length := by rw [refsW_len]; exact hk
  have lW : (((chAt Y.sh.sets k).filter fun x => decide (x ≠ line)).map W.int).length ≤ 16777216 := by simpa using ll
  generalize hl : ((chAt Y.sh.sets k).filter fun x => decide (x ≠ line)) = l at *
  have r3 := (r.mno m3).mno (Mod.new (o := O.lst (l.map W.int)))
  have h4 := r3.at .sets rfl
  have ll' : l.length ≤ 16777216 := ll
  simp [ll', h4, e5, n0, ek, e6, kl]
  have la : L ≤ nx h3 0 := by have := r.low .sets rfl; have := r.v.lt (x := .sets) rfl; have := m3.1; unfold nx; omega
  obtain ⟨r4, m4⟩ := r3.renew (x := .set k) (u := .sets) (a := nx h3 0) (o := intsO l) (ou := .lst ((refsW Y.sh.sets fun i => adr (.set i)).set k (.ref (nx h3 0)))) (Y' := { Y with sh := { Y.sh with sets := Y.sh.sets.set k l } }) (by simp) rfl hg_new' (fresh_ne (r.mno m3) (by unfold nx; omega)) la
    (fun z => ob_set hk _ _ z)
  refine q _ _ ⟨rfl, rfl, mv adr (.set k) (nx h3 0), ?_, Kp1.set _ _, by simp [mv], ((m3.of_no).trans Mod.new).trans m4⟩
  unfold dropL
  rw [hkk, hl]
  exact r4
theorem Sml.drop (sm : Sml P Gs Y) (line : Int) : Sml P Gs { Y with sh := { Y.sh with sets := dropL P.nset Y.sh.sets line } } := by
  refine ⟨by show (dropL _ _ _).length = _; unfold dropL; rw [List.length_set]; exact sm.nset, sm.n0, sm.n1, fun l hl => ?_, sm.pairs, sm.room, sm.ways, sm.rooms, sm.room1, sm.ch, sm.gs⟩
  rcases List.mem_or_eq_of_mem_set (show l ∈ dropL _ _ _ from hl) with z | z
  · exact sm.set l z
  · rw [z]
    refine Nat.le_trans (List.length_filter_le _ _) ?_
    unfold chAt
    cases e : Y.sh.sets[setAt P.nset line]? with
    | none => simp
    | some l' => exact sm.set l' (List.mem_of_getElem? e)
def dropTo (n : Nat) (sets : List (List Int)) (f : Int) : Nat → List (List Int)
  | 0 => sets
  | i + 1 => dropL n (dropTo n sets f i) (4 * f + i)
theorem dropTo4 (n : Nat) (sets : List (List Int)) (f : Int) : dropTo n sets f 4 = dropF n sets f := by
  unfold dropF
  simp [dropTo]
theorem Sml.dropTo (sm : Sml P Gs Y) (f : Int) : ∀ i, Sml P Gs { Y with sh := { Y.sh with sets := Nw.dropTo P.nset Y.sh.sets f i } }
  | 0 => sm
  | i + 1 => (Sml.dropTo sm f i).drop _
theorem drops_run {env : Env} {f : Int} (r : YR L p Gs h adr Y) (sm : Sml P Gs Y) (e5 : env 5 = some (.int (P.nset : Nat))) (e6 : env 6 = some (.ref (adr .sets))) (f0 : 0 ≤ f) :
    Run (forK (forF (prg.cfg n) (.nm 7) l_law_bring_1) env (.ws (rangeW (4 * f) (4 * f + 4))) h) fun q h' => q.1 = .nx ∧ ∃ adr', YR L p Gs h' adr' { Y with sh := { Y.sh with sets := dropF P.nset Y.sh.sets f } } ∧ Kp1 adr adr' ∧ Mod (Hi L) h h' := by
  refine (for_all (rangeW (4 * f) (4 * f + 4)) (fun i env h' => env 5 = some (.int (P.nset : Nat)) ∧ env 6 = some (.ref (adr .sets)) ∧ ∃ adr', YR L p Gs h' adr' { Y with sh := { Y.sh with sets := dropTo P.nset Y.sh.sets f i } } ∧ Kp1 adr adr' ∧ adr' .sets = adr .sets ∧ Mod (Hi L) h h') ⟨e5, e6, adr, r, .rfl, rfl, .rfl⟩ (fun _ _ _ _ => rfl) (fun i w env h' hw ⟨e5, e6, adr', r', k', s', m'⟩ => ?_)).imp ?_
  · obtain ⟨rfl, lt⟩ := range_at hw
    refine (drop_turn r' (sm.dropTo f i) e5 (by rw [e6, s']) (by omega)).imp ?_
    rintro ⟨fl, env'⟩ h'' ⟨q1, q2, adr'', r'', k'', s'', m''⟩
    have q2 : env' = _ := q2
    subst q2
    exact ⟨q1, by simp [e5], by simp [e6], adr'', r'', k'.trans k'', s''.trans s', m'.trans m''⟩
  · rintro ⟨fl, env'⟩ h'' ⟨q1, _, _, adr', r', k', _, m'⟩
    have : (rangeW (4 * f) (4 * f + 4)).length = 4 := by rw [range_len]; omega
    rw [this, dropTo4] at r'
    exact ⟨q1, adr', r', k', m'⟩
/-- the guest's pages and the pairs, as told -/
def YSt.pg (Y : YSt) (g : Nat) (s : LS) (l : List (Int × Int)) (ps : List ((Int × Int) × Int)) : YSt := { (Y.up g { s with inn := l }) with sh := { Y.sh with pairs := ps } }
def goneP (G : GD) (ps : List ((Int × Int) × Int)) : Option Int → List ((Int × Int) × Int)
  | some q => ps.filter fun p => decide (p.1 ≠ (G.num, q))
  | none => ps
theorem pg_pg (l l' : List (Int × Int)) (ps ps' : List ((Int × Int) × Int)) : (Y.pg g s l ps).pg g { s with inn := l } l' ps' = Y.pg g s l' ps' := by
  simp [YSt.pg, YSt.up]
theorem pg_at (hs : Y.own[g]? = some s) (l : List (Int × Int)) (ps : List ((Int × Int) × Int)) : (Y.pg g s l ps).own[g]? = some { s with inn := l } := up_at (s' := { s with inn := l }) hs
/-- the guest's list is written -/
theorem YR.pgL (r : YR L p Gs h adr Y) (e0 : Y.own[g]? = some s) (l : List (Int × Int)) : YR L p Gs (hs h (adr (.inn g)) (.lst (l.map innW))) adr (Y.pg g s l Y.sh.pairs) ∧ Mod (Hi L) h (hs h (adr (.inn g)) (.lst (l.map innW))) :=
  r.set (x := .inn g) (by simp [objs, e0]) (fun z => ob_inn e0 l z)
theorem Sml.pg (sm : Sml P Gs Y) (l : List (Int × Int)) {ps : List ((Int × Int) × Int)} (hl : ps.length ≤ Y.sh.pairs.length) : Sml P Gs (Y.pg g s l ps) :=
  ⟨sm.nset, sm.n0, sm.n1, sm.set, Nat.le_trans hl sm.pairs, sm.room, sm.ways, sm.rooms, sm.room1, sm.ch, by show Gs.length = (Y.own.set g _).length; rw [List.length_set]; exact sm.gs⟩
theorem goneP_len (ps : List ((Int × Int) × Int)) (o : Option Int) : (goneP G ps o).length ≤ ps.length := by
  cases o
  · exact Nat.le_refl _
  · exact List.length_filter_le _ _
theorem filter_map {α : Type} (f : α → W) (c : α → Bool) (l : List α) : l.filterMap (fun v => if c v = true then some (f v) else none) = (l.filter c).map f := by
  induction l with
  | nil => rfl
  | cons a l ih =>
    rw [List.filterMap_cons, List.filter_cons]
    by_cases h : c a = true
    · rw [if_pos h, if_pos h]; simp [ih]
    · rw [if_neg h, if_neg h]; exact ih
theorem filter_mapP {α : Type} (f : α → W) (c : α → Prop) [DecidablePred c] (l : List α) : l.filterMap (fun v => if c v then some (f v) else none) = (l.filter fun v => decide (c v)).map f := by
  rw [← filter_map]
  congr 1; funext v; simp
theorem eqW_pair {h : VH} (a b c d : Int) : eqW h (.tup [.int a, .int b]) (.tup [.int c, .int d]) = some (decide ((a, b) = (c, d))) := by
  haveI : Decidable ([W.int a, W.int b] = [W.int c, W.int d]) := decidable_of_iff ((a, b) = (c, d)) (by simp)
  rw [eqW_t (by simp) (by simp)]
  congr 1
  simp
theorem c_bring {page : Int} (r : YR L p Gs h adr Y) (sm : Sml (pdOf p) Gs Y) (e0 : Y.own[g]? = some s) (hG : Gs[g]? = some G) (sg : SmG G s) :
    Run (prg.call (n + 1) f_law_bring [.ref (adr .y), .ref (adr (.m g)), .int page] h) fun x h' => x = .non ∧ ∃ adr', YR L p Gs h' adr' { (Y.pg g s (bringF G s.inn page).2.1 (goneP G Y.sh.pairs (bringF G s.inn page).2.2)) with sh := ⟨dropF p.sets Y.sh.sets (bringF G s.inn page).1, goneP G Y.sh.pairs (bringF G s.inn page).2.2⟩ } ∧ Kp1 adr adr' ∧ Mod (Hi L) h h' := by
  refine run_q fun Q q => ?_
  have hy : hg h (adr .y) = some (.dct (yD p adr Y.clock Y.slot)) := r.at .y rfl
  have hm : hg h (adr (.m g)) = some (.dct (mDO adr g G s)) := r.at (.m g) (by simp [objs, e0, hG])
  have hi : hg h (adr (.inn g)) = some (.lst (s.inn.map innW)) := r.at (.inn g) (by simp [objs, e0])
  have hp : hg h (adr .pairs) = some (.lst (Y.sh.pairs.map pairW)) := r.at .pairs rfl
  have il := sg.inn
  have f1 := sg.f1
  have pl : Y.sh.pairs.length ≤ 16777216 := by have := sm.pairs; have := sm.room; omega
  rw [u_law_bring]
  refine run_cut 1 (fun env h' => env 0 = some (.ref (adr .y)) ∧ env 1 = some (.ref (adr (.m g))) ∧ env 2 = some (.int page) ∧ ∃ (fr : Int) (l0 : List (Int × Int)) (gn : Option Int) (adr' : Rl → Nat), env 3 = some (.int fr) ∧ bringF G s.inn page = (fr, l0 ++ [(page, fr)], gn) ∧ 0 ≤ fr ∧ fr < 100000 ∧ l0.length ≤ 64 ∧
    YR L p Gs h' adr' (Y.pg g s l0 (goneP G Y.sh.pairs gn)) ∧ Kp1 adr adr' ∧ Mod (Hi L) h h') ?_ ?_
  · refine run_q fun Q1 q1 => ?_
    simp [b_law_bring, hm, hi]
    refine run_ite (fun c => ?_) (fun c => ?_)
    · have ef : atW (G.frames.map W.int) ((s.inn.length : Nat) : Int) = some (.int (gI G.frames s.inn.length)) := at_gI (by omega) (by omega)
      have eb : bringF G s.inn page = (gI G.frames s.inn.length, s.inn ++ [(page, gI G.frames s.inn.length)], none) := if_pos c
      have f0 := sg.fr _ (gI_mem c)
      simp [ef]
      have e1 : Y.pg g s s.inn (goneP G Y.sh.pairs none) = Y := by
        have : Y.own.set g s = Y.own := by
          apply List.ext_getElem?
          intro i
          rw [set_at e0]
          split
          · rename_i z; rw [z]; exact e0.symm
          · rfl
        unfold YSt.pg YSt.up goneP
        simp only [this]
      exact q1 _ _ ⟨rfl, by simp, by simp, by simp, _, s.inn, none, adr, by simp, eb, f0.1, f0.2, by omega, by rw [e1]; exact r, .rfl, .rfl⟩
    · have hne : s.inn ≠ [] := by intro z; rw [z] at c; have := sg.f0; simp only [List.length_nil] at c; omega
      obtain ⟨⟨gone, fr⟩, rest, einn⟩ := List.exists_cons_of_ne_nil hne
      have eb : bringF G s.inn page = (fr, rest ++ [(page, fr)], some gone) := by unfold bringF; rw [if_neg c, einn]
      have f0 := sg.fr fr (sg.ok (gone, fr) (by rw [einn]; exact List.mem_cons_self ..))
      have il0 : s.inn.length = rest.length + 1 := by rw [einn]; rfl
      have il' : rest.length ≤ 64 := by omega
      obtain ⟨r1, m1⟩ := r.pgL e0 rest
      have hi' : s.inn.map innW = .tup [.int gone, .int fr] :: rest.map innW := by rw [einn]; rfl
      have ny := r.v.ne (x := .inn g) (y := .y) (by simp [objs, e0]) rfl (by simp)
      have np := r.v.ne (x := .inn g) (y := .pairs) (by simp [objs, e0]) rfl (by simp)
      have nm := r.v.ne (x := .inn g) (y := .m g) (by simp [objs, e0]) (by simp [objs, e0, hG]) (by simp)
      rw [hi'] at hi
      rw [hi']
      simp [hm, hi, hy, ny, hp, np, nm]
      have h1p := r1.at .pairs rfl
      have h1y := r1.at .y rfl
      have h1m := r1.at (.m g) (by show objs p Gs adr (Y.pg g s rest Y.sh.pairs) (.m g) = some (.dct (mDO adr g G { s with inn := rest })); simp only [objs, pg_at e0, hG])
      generalize hh1 : hs h (adr (.inn g)) (O.lst (rest.map innW)) = h1 at *
      simp [z_itl _ h1p]
      refine run_bind (lc_filx Y.sh.pairs pairW (fun v => if v.1 ≠ (G.num, gone) then some (pairW v) else none) (its := .live (adr .pairs)) (listAt_of h1p) (by omega) (fun v h2 hv md => ?_)) ?_
      · have h2m := md.get h1m (fun z => z)
        simp [e_law_bring_1, t_law_bring_1, pairW, h2m, eqW_pair]
        refine run_ite (fun c => ?_) (fun c => ?_)
        · have c' : ¬ v.1 = (G.num, gone) := by intro z; rw [z] at c; simp at c
          simp [c']; exact Mod.rfl
        · have c' : v.1 = (G.num, gone) := Prod.ext (by omega) (by omega)
          simp [c']; exact Mod.rfl
      rintro _ h2 ⟨rfl, m2⟩
      have fl : Y.sh.pairs.filterMap (fun v => if v.1 ≠ (G.num, gone) then some (pairW v) else none) = (goneP G Y.sh.pairs (some gone)).map pairW := by
        exact filter_mapP pairW (fun v => v.1 ≠ (G.num, gone)) _
      rw [fl]
      have gl : (goneP G Y.sh.pairs (some gone)).length ≤ 16777216 := Nat.le_trans (goneP_len ..) pl
      generalize hps : goneP G Y.sh.pairs (some gone) = ps at *
      have r3 := (r1.mno m2).mno (Mod.new (o := O.lst (ps.map pairW)))
      have h3y := r3.at .y rfl
      simp [gl, h3y]
      have la : L ≤ nx h2 0 := by have := r.low .y rfl; have := (r1.mno m2).v.lt (x := .y) rfl; unfold nx; omega
      obtain ⟨r4, m4⟩ := r3.renew (x := .pairs) (u := .y) (a := nx h2 0) (o := .lst (ps.map pairW)) (ou := .dct (yD p (mv adr .pairs (nx h2 0)) Y.clock Y.slot)) (Y' := { (Y.pg g s rest Y.sh.pairs) with sh := { Y.sh with pairs := ps } }) (by simp) rfl hg_new' (fresh_ne (r1.mno m2) (by unfold nx; omega)) la (fun z => ob_pairs _ _ z)
      exact q1 _ _ ⟨rfl, by simp, by simp, by simp, fr, rest, some gone, mv adr .pairs (nx h2 0), by simp, eb, f0.1, f0.2, il', by rw [hps]; exact r4, Kp1.pairs _, ((m1.trans m2.of_no).trans Mod.new).trans m4⟩
  · rintro env h1 ⟨v0, v1, v2, fr, l0, gn, adr1, v3, eb, f0, f1', ll, r1, k1, m1⟩
    have a0 : adr1 .y = adr .y := k1 _ (by simp) (by simp) (by simp) (by simp) (by simp)
    have a1 : adr1 (.m g) = adr (.m g) := k1 _ (by simp) (by simp) (by simp) (by simp) (by simp)
    have a2 : adr1 (.inn g) = adr (.inn g) := k1 _ (by simp) (by simp) (by simp) (by simp) (by simp)
    have h1m := r1.at (.m g) (by show objs p Gs adr1 (Y.pg g s l0 (goneP G Y.sh.pairs gn)) (.m g) = some (.dct (mDO adr1 g G { s with inn := l0 })); simp only [objs, pg_at e0, hG])
    have h1i := r1.at (.inn g) (by show objs p Gs adr1 (Y.pg g s l0 (goneP G Y.sh.pairs gn)) (.inn g) = some (.lst (l0.map innW)); simp only [objs, pg_at e0]; rfl)
    rw [a1] at h1m
    have l1 : (l0.map innW).length < 16777216 := by simp; omega
    obtain ⟨r2, m2⟩ := r1.pgL (pg_at e0 _ _) (l0 ++ [(page, fr)])
    have ei : (l0 ++ [(page, fr)]).map innW = l0.map innW ++ [.tup [.int page, .int fr]] := by simp [innW]
    rw [ei] at r2 m2
    rw [pg_pg] at r2
    have r2 : YR L p Gs _ adr1 (Y.pg g s (l0 ++ [(page, fr)]) (goneP G Y.sh.pairs gn)) := r2
    have hy2 := r2.at .y rfl
    rw [a0] at hy2
    have l2 : l0.length < 16777216 := by omega
    simp [b_law_bring, v0, v1, v2, v3, h1m, h1i, l2]
    generalize hh2 : hs h1 (adr1 (.inn g)) (O.lst (l0.map innW ++ [.tup [.int page, .int fr]])) = h2 at *
    have c2 : (2 : Int) * fr = 2 * fr := rfl
    have c3 : 4 * fr < 2000000000 := by omega
    have rg := z_rg2 (h := h2) (i := 4 * fr) (j := 4 * fr + 4) (by omega) (by omega) (by omega) (by omega)
    simp [hy2, v0, v3, z_mull (i := 4) _ (by decide), rg]
    refine run_bind (drops_run (f := fr) (env := setv (setv env 5 (.int (p.sets : Nat))) 6 (.ref (adr1 .sets))) r2 (P := pdOf p) (Gs := Gs) ?_ ?_ ?_ f0) ?_
    · exact sm.pg _ (goneP_len ..)
    · simp; rfl
    · simp
    rintro ⟨fl, env'⟩ h3 ⟨rfl, adr3, r3, k3, m3⟩
    simp
    refine q _ _ ⟨rfl, adr3, ?_, k1.trans k3, (m1.trans m2).trans m3⟩
    rw [eb]
    exact r3
end
end Nw

set_option Elab.async false
set_option linter.all false
set_option maxRecDepth 100000
set_option maxHeartbeats 2000000
/-! The laws' own system: an address is met. -/
namespace Nw
open PySem PySem.Spec PyProof.Rows L2
section
variable {n : Nat} {L : Nat} {p : PlanT} {P : PD} {Gs : List GD} {h h' : VH} {adr : Rl → Nat} {Y : YSt} {g : Nat} {G : GD} {s s' : LS}
/-- a guest and what is shared, as told -/
def YSt.go (Y : YSt) (g : Nat) (s : LS) (sh : SH) : YSt := { (Y.up g s) with sh := sh }
theorem go_at (e0 : Y.own[g]? = some s) (s' : LS) (sh : SH) : (Y.go g s' sh).own[g]? = some s' := up_at e0
theorem go_go (s s' : LS) (sh sh' : SH) : (Y.go g s sh).go g s' sh' = Y.go g s' sh' := by simp [YSt.go, YSt.up]
theorem go_up (s s' : LS) (sh : SH) : (Y.go g s sh).up g s' = Y.go g s' sh := by simp [YSt.go, YSt.up]
theorem YR.gm (r : YR L p Gs h adr Y) (e0 : Y.own[g]? = some s) (hG : Gs[g]? = some G) (s' : LS) (e1 : s'.M.mem = s.M.mem) (e2 : s'.M.regs = s.M.regs) (e3 : s'.M.deeds = s.M.deeds) (e4 : s'.M.met = s.M.met) (e5 : s'.inn = s.inn) :
    YR L p Gs (hs h (adr (.m g)) (.dct (mDO adr g G s'))) adr (Y.up g s') ∧ Mod (Hi L) h (hs h (adr (.m g)) (.dct (mDO adr g G s'))) :=
  r.set (x := .m g) (by simp [objs, e0, hG]) (fun z => ob_m e0 hG e1 e2 e3 e4 e5 z)
theorem go_self (e0 : Y.own[g]? = some s) (sh : SH) : Y.go g s sh = { Y with sh := sh } := by
  have : Y.own.set g s = Y.own := by
    apply List.ext_getElem?
    intro i
    rw [set_at e0]
    split
    · rename_i z; rw [z]; exact e0.symm
    · rfl
  unfold YSt.go YSt.up
  simp only [this]
theorem cut_last {α : Type} (l : List α) {k : Nat} (h : 0 < k) : cut l (some (-(k : Int))) none = lastN k l := by
  unfold cut lastN
  have e : HT.sIx l.length 0 (some (-(k : Int))) = l.length - k := by simp [HT.sIx, h]; omega
  rw [e]
  have e2 : HT.sIx l.length l.length none = l.length := rfl
  rw [e2]
  exact List.take_of_length_le (by simp)
theorem lastN_map {α β : Type} (f : α → β) (l : List α) (k : Nat) : lastN k (l.map f) = (lastN k l).map f := by simp [lastN]
theorem lastN_len {α : Type} (l : List α) (k : Nat) : (lastN k l).length ≤ k := by simp [lastN]; omega
theorem o_inL {h : VH} (i : Int) (l : List Int) : inO h (.int i) (some (.lst (l.map W.int))) = some (decide (i ∈ l)) := by
  have e : inF (.int i) (l.map W.int) = some (decide (i ∈ l)) := by
    show (if flatW (.int i) = true ∧ (l.map W.int).all flatW = true then some ((l.map W.int).any fun y => eqF y (.int i)) else none) = _
    rw [if_pos ⟨rfl, by rw [List.all_map]; exact List.all_eq_true.mpr fun _ _ => rfl⟩]
    congr 1
    induction l with
    | nil => rfl
    | cons x l ih =>
      rw [List.map_cons, List.any_cons, ih]
      have : eqF (.int x) (.int i) = decide (i = x) := by show (x == i) = _; rw [Bool.beq_eq_decide_eq]; exact decide_eq_decide.mpr ⟨fun z => z.symm, fun z => z.symm⟩
      rw [this]
      simp
  show (match inF (.int i) (l.map W.int) with | some b => some b | none => _) = _
  rw [e]
theorem c_meetT {a f : Int} {env : Env} (r : YR L p Gs h adr Y) (sm : Sml (pdOf p) Gs Y) (e0 : Y.own[g]? = some s) (hG : Gs[g]? = some G) (sg : SmG G s) (a0 : 0 ≤ a) (f0 : 0 ≤ f) (f1 : f < 100000) (a1 : a < 4294967296)
    (v0 : env 0 = some (.ref (adr .y))) (v1 : env 1 = some (.ref (adr (.m g)))) (v2 : env 2 = some (.int a)) (v3 : env 3 = some (planW p)) (v4 : env 4 = some (.tup [.int G.num, .int (a / 16)])) {r5' : Nat} {l : List Int} (v5 : env 5 = some (.ref r5')) (h5 : hg h r5' = some (.lst ((f :: l).map W.int))) :
    Run ((evSs (prg.cfg n) (b_law_meet.drop 3) env h).bind retK) fun x h' => x = .int (meetT (pdOf p) G s.inn Y.sh a f).spent ∧ ∃ adr', YR L p Gs h' adr' { Y with sh := (meetT (pdOf p) G s.inn Y.sh a f).sh } ∧ Kp1 adr adr' ∧ Mod (Hi L) h h' := by
  refine run_q fun Q q => ?_
  have hy : hg h (adr .y) = some (.dct (yD p adr Y.clock Y.slot)) := r.at .y rfl
  have hp : hg h (adr .pairs) = some (.lst (Y.sh.pairs.map pairW)) := r.at .pairs rfl
  have pl : Y.sh.pairs.length ≤ 16777216 := by have := sm.pairs; have := sm.room; omega
  refine run_cut 2 (fun env h' => env 0 = some (.ref (adr .y)) ∧ env 2 = some (.int a) ∧ env 3 = some (planW p) ∧ env 5 = some (.ref r5') ∧ env 6 = some (.int (if hasP G Y.sh (a / 16) then 0 else p.look)) ∧ hg h' r5' = some (.lst ((f :: l).map W.int)) ∧ ∃ adr', 
    YR L p Gs h' adr' { Y with sh := ⟨Y.sh.sets, if hasP G Y.sh (a / 16) then Y.sh.pairs else lastN p.room (Y.sh.pairs ++ [((G.num, a / 16), f)])⟩ } ∧ Kp1 adr adr' ∧ adr' .sets = adr .sets ∧ Mod (Hi L) h h') ?_ ?_
  · refine run_q fun Q1 q1 => ?_
    simp [b_law_meet, v0, v1, v2, v3, v4, v5, hy, z_itl _ hp]
    refine run_bind (lc_filx Y.sh.pairs pairW (fun v => if v.1 = (G.num, a / 16) then some (pairW v) else none) (its := .live (adr .pairs)) (listAt_of hp) (by omega) (fun v h2 hv md => ?_)) ?_
    · simp [e_law_meet_2, t_law_meet_2, pairW, v4, eqW_pair]
      refine run_ite (fun c => ?_) (fun c => ?_)
      · have c' : v.1 = (G.num, a / 16) := Prod.ext (by omega) (by omega)
        simp [c']; exact Mod.rfl
      · have c' : ¬ v.1 = (G.num, a / 16) := by intro z; rw [z] at c; simp at c
        simp [c']; exact Mod.rfl
    rintro _ h2 ⟨rfl, m2⟩
    have fl : Y.sh.pairs.filterMap (fun v => if v.1 = (G.num, a / 16) then some (pairW v) else none) = (Y.sh.pairs.filter fun v => decide (v.1 = (G.num, a / 16))).map pairW := filter_mapP pairW (fun v => v.1 = (G.num, a / 16)) _
    rw [fl]
    have gl : (Y.sh.pairs.filter fun v => decide (v.1 = (G.num, a / 16))).length ≤ 16777216 := Nat.le_trans (List.length_filter_le ..) pl
    have he : ((Y.sh.pairs.filter fun v => decide (v.1 = (G.num, a / 16))).map pairW).isEmpty = !hasP G Y.sh (a / 16) := by
      rw [List.isEmpty_map]
      unfold hasP
      generalize Y.sh.pairs = l
      induction l with
      | nil => rfl
      | cons b l ih =>
        rw [List.filter_cons, List.any_cons]
        by_cases c : b.1 = (G.num, a / 16)
        · simp [c]
        · rw [if_neg (by simpa using c), ih]; simp [c]
    generalize hl2 : (Y.sh.pairs.filter fun v => decide (v.1 = (G.num, a / 16))) = l2 at *
    have h3 := m2.get h5 (fun z => z)
    have m3 : Mod no h (hn (hn h2 (O.lst (l2.map pairW))) (O.lst [])) := (m2.trans Mod.new).trans Mod.new
    have h3y := m3.get hy (fun z => z)
    have h3p := m3.get hp (fun z => z)
    have h35 := m3.get h5 (fun z => z)
    have eqn : eqW (hn (hn h2 (O.lst (l2.map pairW))) (O.lst [])) (.ref (nx h2 0)) (.ref (nx h2 1)) = some (!hasP G Y.sh (a / 16)) := by
      rw [eqW_nil (a := l2.map pairW) (by simp) (by simp) (by simp [pairW]), he]
    simp [gl, eqn]
    generalize hh3 : hn (hn h2 (O.lst (l2.map pairW))) (O.lst []) = h3 at *
    have r3 := r.mno m3
    refine run_ite (fun c => ?_) (fun c => ?_)
    · have pl1 : Y.sh.pairs.length + 1 ≤ 16777216 := by have := sm.pairs; have := sm.room; omega
      have rm : 0 < p.room := sm.room.1
      simp [v0, v3, v4, v5, h3y, h3p, h35, pl1, cut_last _ rm, ticksW]
      have c : hasP G Y.sh (a / 16) = false := c
      have el : Y.sh.pairs.map pairW ++ [.tup [.tup [.int G.num, .int (a / 16)], .int f]] = (Y.sh.pairs ++ [((G.num, a / 16), f)]).map pairW := by simp [pairW]
      rw [el, lastN_map]
      generalize ehx : hn (hn h3 (O.lst [.tup [.tup [.int G.num, .int (a / 16)], .int f]])) (O.lst ((Y.sh.pairs ++ [((G.num, a / 16), f)]).map pairW)) = hx at *
      have m4 : Mod no h3 hx := by rw [← ehx]; exact Mod.new.trans Mod.new
      have ex : nx h3 2 = nx hx 0 := by rw [← ehx]; simp
      rw [ex]
      have rx := r3.mno m4
      have r5 := rx.mno (Mod.new (o := O.lst ((lastN p.room (Y.sh.pairs ++ [((G.num, a / 16), f)])).map pairW)))
      have la : L ≤ nx hx 0 := by have := r.low .y rfl; have := rx.v.lt (x := .y) rfl; unfold nx; omega
      obtain ⟨r6, m6⟩ := r5.renew (x := .pairs) (u := .y) (a := nx hx 0) (o := .lst ((lastN p.room (Y.sh.pairs ++ [((G.num, a / 16), f)])).map pairW)) (ou := .dct (yD p (mv adr .pairs (nx hx 0)) Y.clock Y.slot)) (Y' := { Y with sh := { Y.sh with pairs := lastN p.room (Y.sh.pairs ++ [((G.num, a / 16), f)]) } }) (by simp) rfl hg_new' (fresh_ne rx (by unfold nx; omega)) la (fun z => ob_pairs _ _ z)
      have mm := ((m3.of_no.trans m4.of_no).trans Mod.new).trans m6
      have hr5 : hg (hs (hn hx (O.lst ((lastN p.room (Y.sh.pairs ++ [((G.num, a / 16), f)])).map pairW))) (adr .y) (.dct (yD p (mv adr .pairs (nx hx 0)) Y.clock Y.slot))) r5' = some (.lst ((f :: l).map W.int)) := by
        rw [hg_ne (fun z => by rw [← z] at h5; rw [hy] at h5; cases h5)]
        exact (Mod.new (s := no)).get (m4.get h35 (fun z => z)) (fun z => z)
      exact q1 _ _ ⟨rfl, by simp [v0], by simp [v2], by simp [v3], by simp [v5], by simp [c], hr5, mv adr .pairs (nx hx 0), by simp only [c]; exact r6, Kp1.pairs _, by simp [mv], mm⟩
    · have c : hasP G Y.sh (a / 16) = true := by simpa using c
      simp
      exact q1 _ _ ⟨rfl, by simp [v0], by simp [v2], by simp [v3], by simp [v5], by simp [c], h35, adr, by simp only [c]; exact r3, .rfl, rfl, m3.of_no⟩
  · rintro env h1 ⟨v0, v2, v3, v5, v6, h5, adr1, r1, k1, s1, m1⟩
    have n0 : 0 < p.sets := sm.n0
    have n1 : p.sets ≤ 64 := sm.n1
    have nset : Y.sh.sets.length = p.sets := sm.nset
    have w0 : 1 ≤ p.ways := sm.ways.1
    have w1 : p.ways ≤ 4 := sm.ways.2
    have as : adr1 .sets = adr .sets := s1
    have hsets := r1.at .sets rfl
    have ay : adr1 .y = adr .y := k1 _ (by simp) (by simp) (by simp) (by simp) (by simp)
    have hy1 := r1.at .y rfl
    rw [ay] at hy1
    simp [b_law_meet, v0, v2, v3, v5, v6, h5, hy1, z_mull (i := 16) _ (by decide)]
    have e1 : (16 * f + a % 16) / 4 = lineOf f a := rfl
    rw [e1]
    have l0 : 0 ≤ lineOf f a := by unfold lineOf; omega
    have hk : setAt p.sets (lineOf f a) < Y.sh.sets.length := by
      rw [nset]; unfold setAt
      have := Int.emod_lt_of_pos (lineOf f a) (show (0 : Int) < p.sets by omega)
      have := Int.emod_nonneg (lineOf f a) (show (p.sets : Int) ≠ 0 by omega)
      omega
    have ek : lineOf f a % (p.sets : Int) = ((setAt p.sets (lineOf f a) : Nat) : Int) := by
      unfold setAt
      have := Int.emod_nonneg (lineOf f a) (show (p.sets : Int) ≠ 0 by omega)
      omega
    have ee : Y.sh.sets[setAt p.sets (lineOf f a)]? = some (chAt Y.sh.sets (setAt p.sets (lineOf f a))) := by unfold chAt; rw [List.getElem?_eq_getElem hk]; rfl
    have h2 : hg h1 (adr1 (.set (setAt p.sets (lineOf f a)))) = some (intsO (chAt Y.sh.sets (setAt p.sets (lineOf f a)))) := r1.at (.set _) (by simp [objs, ee])
    have lb : (chAt Y.sh.sets (setAt p.sets (lineOf f a))).length ≤ 4 := sm.set _ (List.mem_of_getElem? ee)
    have em : meetT (pdOf p) G s.inn Y.sh a f = ⟨false, (if hasP G Y.sh (a / 16) then 0 else p.look) + (if lineOf f a ∈ chAt Y.sh.sets (setAt p.sets (lineOf f a)) then p.hit else p.miss), s.inn,
      ⟨Y.sh.sets.set (setAt p.sets (lineOf f a)) ((lineOf f a :: (chAt Y.sh.sets (setAt p.sets (lineOf f a))).filter fun x => decide (x ≠ lineOf f a)).take p.ways), if hasP G Y.sh (a / 16) then Y.sh.pairs else lastN p.room (Y.sh.pairs ++ [((G.num, a / 16), f)])⟩⟩ := rfl
    rw [em] at q
    generalize setAt p.sets (lineOf f a) = k at *
    generalize chAt Y.sh.sets k = ls at *
    generalize (if hasP G Y.sh (a / 16) then 0 else p.look) = u at *
    generalize (if hasP G Y.sh (a / 16) then Y.sh.pairs else lastN p.room (Y.sh.pairs ++ [((G.num, a / 16), f)])) = ps at *
    generalize lineOf f a = line at *
    have ea : atW (refsW Y.sh.sets fun i => adr1 (.set i)) ((k : Nat) : Int) = some (.ref (adr1 (.set k))) := by rw [atW_nat, refsW_at hk]
    simp [n0, ek, hy1, hsets, ea, h2, intsO, o_inL, v0, v3, ticksW, v6]
    have rA := r1.mno (Mod.new (o := O.lst [W.int line]))
    have h2A := rA.at (.set k) (by simp only [objs, ee]; rfl)
    refine run_ite (fun c => ?_) (fun c => ?_)
    all_goals
      simp only [c, if_true, if_false] at q
      simp [z_itl _ h2A]
      refine run_bind (lc_filx ls W.int (fun v => if v ≠ line then some (.int v) else none) (its := .live (adr1 (.set k))) (listAt_of h2A) (by omega) (fun v h1 hv md => ?_)) ?_
      · simp [e_law_meet_3, t_law_meet_3]
        refine run_ite (fun c => ?_) (fun c => ?_)
        · simp [c]; exact Mod.rfl
        · simp [c]; exact Mod.rfl
      rintro _ h3 ⟨rfl, m3⟩
      have fl : ls.filterMap (fun v => if v ≠ line then some (W.int v) else none) = (ls.filter fun v => decide (v ≠ line)).map W.int := filter_mapP W.int (fun v => v ≠ line) _
      rw [fl]
      have gl : (ls.filter fun v => decide (v ≠ line)).length ≤ 4 := Nat.le_trans (List.length_filter_le ..) lb
      generalize (ls.filter fun v => decide (v ≠ line)) = l3 at *
      have gl1 : l3.length ≤ 16777216 := by omega
      have gl2 : l3.length + 1 ≤ 16777216 := by omega
      have h4 := m3.get (hg_new' (h := h1) (o := O.lst [W.int line])) (fun z => z)
      have h4n := (m3.trans (Mod.new (o := O.lst (l3.map W.int)))).get (hg_new' (h := h1) (o := O.lst [W.int line])) (fun z => z)
      have w2 : (0 : Int) ≤ p.ways := by omega
      have gl3 : 1 + l3.length ≤ 16777216 := by omega
      have r3 := rA.mno m3
      have h5s := r3.at .sets rfl
      have kl : k < (refsW Y.sh.sets fun i => adr1 (.set i)).length := by rw [refsW_len]; exact hk
      simp [gl1, gl2, h4, h4n, v0, v3, cut_to _ w2, gl3, h5s, kl]
      have et : (W.int line :: l3.map W.int).take p.ways = ((line :: l3).take p.ways).map W.int := by rw [← List.map_cons, List.map_take]
      rw [et]
      generalize eh : hn (hn h3 (O.lst (l3.map W.int))) (O.lst (W.int line :: l3.map W.int)) = h4 at *
      have m4 : Mod no h3 h4 := by rw [← eh]; exact Mod.new.trans Mod.new
      have ex : nx h3 2 = nx h4 0 := by rw [← eh]; simp
      rw [ex]
      have r4 := r3.mno m4
      have r5 := r4.mno (Mod.new (o := intsO ((line :: l3).take p.ways)))
      have la : L ≤ nx h4 0 := by have := r.low .y rfl; have := r4.v.lt (x := .y) rfl; have := r4.low .y rfl; unfold nx; omega
      obtain ⟨r6, m6⟩ := r5.renew (x := .set k) (u := .sets) (a := nx h4 0) (o := intsO ((line :: l3).take p.ways)) (ou := .lst ((refsW Y.sh.sets fun i => adr1 (.set i)).set k (.ref (nx h4 0)))) (Y' := { Y with sh := ⟨Y.sh.sets.set k ((line :: l3).take p.ways), ps⟩ }) (by simp) rfl hg_new' (fresh_ne r4 (by unfold nx; omega)) la
        (fun z => ob_set (Y := { Y with sh := ⟨Y.sh.sets, ps⟩ }) hk _ _ z)
      exact q _ _ ⟨rfl, mv adr1 (.set k) (nx h4 0), r6, k1.trans (Kp1.set _ _), (((((m1.trans Mod.new).trans m3.of_no).trans m4.of_no).trans Mod.new).trans m6)⟩
theorem frame_map (l : List (Int × Int)) (page : Int) : l.filterMap (fun v => if v.1 = page then some (W.int v.2) else none) = ((l.filter fun v => decide (v.1 = page)).map (·.2)).map W.int := by
  rw [List.map_map]
  exact filter_mapP (fun v => W.int v.2) (fun v => v.1 = page) l
theorem c_meet {a : Int} (r : YR L p Gs h adr Y) (sm : Sml (pdOf p) Gs Y) (e0 : Y.own[g]? = some s) (hG : Gs[g]? = some G) (sg : SmG G s) (a0 : 0 ≤ a) (a1 : a < 4294967296) (nc : s.came = false) :
    Run (prg.call (n + 2) f_law_meet [.ref (adr .y), .ref (adr (.m g)), .int a] h) fun x h' => x = .int (meet (pdOf p) G s.inn Y.sh a).spent ∧ ∃ adr', YR L p Gs h' adr' (Y.go g { s with inn := (meet (pdOf p) G s.inn Y.sh a).inn, came := (meet (pdOf p) G s.inn Y.sh a).came } (meet (pdOf p) G s.inn Y.sh a).sh) ∧ Kp1 adr adr' ∧ Mod (Hi L) h h' := by
  refine run_q fun Q q => ?_
  have hy : hg h (adr .y) = some (.dct (yD p adr Y.clock Y.slot)) := r.at .y rfl
  have hm : hg h (adr (.m g)) = some (.dct (mDO adr g G s)) := r.at (.m g) (by simp [objs, e0, hG])
  have hi : hg h (adr (.inn g)) = some (.lst (s.inn.map innW)) := r.at (.inn g) (by simp [objs, e0])
  have il := sg.inn
  have f1 := sg.f1
  rw [u_law_meet]
  refine run_cut 2 (fun env h' => env 0 = some (.ref (adr .y)) ∧ env 1 = some (.ref (adr (.m g))) ∧ env 2 = some (.int a) ∧ env 3 = some (planW p) ∧ env 4 = some (.tup [.int G.num, .int (a / 16)]) ∧ ∃ r5 : Nat, env 5 = some (.ref r5) ∧ hg h' r5 = some (.lst ((((s.inn.filter fun v => decide (v.1 = a / 16)).map (·.2)).map W.int))) ∧ Mod no h h') ?_ ?_
  · refine run_q fun Q1 q1 => ?_
    simp [b_law_meet, hy, hm, z_itl _ hi]
    refine run_bind (lc_filx s.inn innW (fun v => if v.1 = a / 16 then some (.int v.2) else none) (its := .live (adr (.inn g))) (listAt_of hi) (by omega) (fun v h2 hv md => ?_)) ?_
    · simp [e_law_meet_1, t_law_meet_1, innW]
      refine run_ite (fun c => ?_) (fun c => ?_)
      · simp [c]; exact Mod.rfl
      · simp [c]; exact Mod.rfl
    rintro _ h2 ⟨rfl, m2⟩
    rw [frame_map]
    have gl : ((s.inn.filter fun v => decide (v.1 = a / 16)).map (·.2)).length ≤ 16777216 := by rw [List.length_map]; exact Nat.le_trans (List.length_filter_le ..) (by omega)
    generalize ((s.inn.filter fun v => decide (v.1 = a / 16)).map (·.2)) = l at *
    simp [gl]
    exact q1 _ _ ⟨rfl, by simp, by simp, by simp, by simp, by simp, nx h2 0, by simp, by simp, m2.trans Mod.new⟩
  · rintro env h1 ⟨v0, v1, v2, v3, v4, r5, v5, h5, m1⟩
    have r1 := r.mno m1
    have hm1 := m1.get hm (fun z => z)
    have a0' : adr .y = adr .y := rfl
    cases ef : frameOf s.inn (a / 16) with
    | none =>
      have el : ((s.inn.filter fun v => decide (v.1 = a / 16)).map (·.2)) = [] := List.head?_eq_none_iff.mp ef
      rw [el] at h5
      have em : meet (pdOf p) G s.inn Y.sh a = meetB (pdOf p) G s.inn Y.sh a := by unfold meet; rw [ef]
      have eqn : eqW (hn h1 (O.lst [])) (.ref r5) (.ref (nx h1 0)) = some true := by
        rw [eqW_nil (a := []) ((Mod.new (s := no)).get h5 (fun z => z)) (by simp) (by simp)]
        rfl
      have rN := r1.mno (Mod.new (o := O.lst []))
      simp [b_law_meet, v0, v1, v2, v3, v4, v5, eqn]
      refine run_bind (c_bring (n := n) (page := a / 16) rN sm e0 hG sg) ?_
      rintro _ h3 ⟨rfl, adr3, r3, k3, m3⟩
      have a1 : adr3 (.m g) = adr (.m g) := k3 _ (by simp) (by simp) (by simp) (by simp) (by simp)
      have h3m := r3.at (.m g) (o := .dct (mDO adr3 g G { s with inn := (bringF G s.inn (a / 16)).2.1 })) (by simp only [objs, pg_at e0, hG])
      have ns : { (Y.pg g s (bringF G s.inn (a / 16)).2.1 (goneP G Y.sh.pairs (bringF G s.inn (a / 16)).2.2)) with sh := ⟨dropF p.sets Y.sh.sets (bringF G s.inn (a / 16)).1, goneP G Y.sh.pairs (bringF G s.inn (a / 16)).2.2⟩ } = Y.go g { s with inn := (bringF G s.inn (a / 16)).2.1 } ⟨dropF p.sets Y.sh.sets (bringF G s.inn (a / 16)).1, goneP G Y.sh.pairs (bringF G s.inn (a / 16)).2.2⟩ := rfl
      rw [ns] at r3
      obtain ⟨r4, m4⟩ := r3.gm (go_at e0 _ _) hG { s with inn := (bringF G s.inn (a / 16)).2.1, came := true } rfl rfl rfl rfl rfl
      rw [go_up] at r4
      rw [a1] at h3m r4 m4
      simp [v1, v3, h3m, ticksW]
      refine q _ _ ⟨by rw [em]; rfl, adr3, ?_, k3, ((m1.of_no.trans Mod.new).trans m3).trans m4⟩
      rw [em]
      have e9 : (meetB (pdOf p) G s.inn Y.sh a).sh = ⟨dropF p.sets Y.sh.sets (bringF G s.inn (a / 16)).1, goneP G Y.sh.pairs (bringF G s.inn (a / 16)).2.2⟩ := by
        unfold meetB goneP
        cases (bringF G s.inn (a / 16)).2.2 <;> rfl
      rw [e9]
      exact r4
    | some f =>
      obtain ⟨t, el⟩ : ∃ t, ((s.inn.filter fun v => decide (v.1 = a / 16)).map (·.2)) = f :: t := List.head?_eq_some_iff.mp ef
      rw [el] at h5
      have em : meet (pdOf p) G s.inn Y.sh a = meetT (pdOf p) G s.inn Y.sh a f := by unfold meet; rw [ef]
      obtain ⟨q1, hq1, hq2, _⟩ := frameOf_mem ef
      have fb := sg.fr f (by rw [← hq2]; exact sg.ok q1 hq1)
      have eqn : eqW (hn h1 (O.lst [])) (.ref r5) (.ref (nx h1 0)) = some false := by
        rw [eqW_nil (a := (f :: t).map W.int) ((Mod.new (s := no)).get h5 (fun z => z)) (by simp) (by simp)]
        rfl
      have rN := r1.mno (Mod.new (o := O.lst []))
      refine run_cut 1 (fun env' h' => env' = env ∧ h' = hn h1 (O.lst [])) ?_ ?_
      · refine run_q fun Q1 q1 => ?_
        simp [b_law_meet, v5, eqn]
        exact q1 _ _ ⟨rfl, rfl, rfl⟩
      · rintro _ _ ⟨rfl, rfl⟩
        refine (c_meetT rN sm e0 hG sg a0 fb.1 fb.2 a1 v0 v1 v2 v3 v4 v5 ((Mod.new (s := no)).get h5 (fun z => z))).imp ?_
        rintro x h' ⟨rfl, adr', r', k', m'⟩
        refine q _ _ ⟨by rw [em], adr', ?_, k', (m1.of_no.trans Mod.new).trans m'⟩
        rw [em]
        have e2 : ({ M := s.M, inn := (meetT (pdOf p) G s.inn Y.sh a f).inn, ans := s.ans, came := (meetT (pdOf p) G s.inn Y.sh a f).came } : LS) = s := by
          show ({ M := s.M, inn := s.inn, ans := s.ans, came := false } : LS) = s
          rw [← nc]
        rw [e2, go_self e0]
        exact r'
end
end Nw

set_option Elab.async false
set_option linter.all false
set_option maxRecDepth 100000
set_option maxHeartbeats 2000000
/-! The laws' own system: words wait; answers. -/
namespace Nw
open PySem PySem.Spec PyProof.Rows L2
section
variable {n : Nat} {L : Nat} {p : PlanT} {P : PD} {Gs : List GD} {h h' : VH} {adr : Rl → Nat} {Y : YSt} {g : Nat} {G : GD} {s s' : LS}
theorem ch_get {k : Nat} (hk : k < Y.ch.length) : Y.ch[k]? = some (chAt Y.ch k) := by unfold chAt; rw [List.getElem?_eq_getElem hk]; rfl
theorem YR.fresh {x u : Rl} {o ou : O} {h1 : VH} {Y' : YSt} (r : YR L p Gs h adr Y) (m : Mod no h h1) (ne : u ≠ x) (hu : (objs p Gs adr Y u).isSome = true)
    (e : ∀ z, objs p Gs (mv adr x (nx h1 0)) Y' z = if z = u then some ou else if z = x then some o else objs p Gs adr Y z) : YR L p Gs (hs (hn h1 o) (adr u) ou) (mv adr x (nx h1 0)) Y' ∧ Mod (Hi L) h (hs (hn h1 o) (adr u) ou) := by
  have r1 := r.mno m
  have la : L ≤ nx h1 0 := by have := r1.v.lt (x := .y) rfl; have := r1.low .y rfl; unfold nx; omega
  obtain ⟨r6, m6⟩ := (r1.mno (Mod.new (o := o))).renew ne hu hg_new' (fresh_ne r1 (by unfold nx; omega)) la e
  exact ⟨r6, (m.of_no.trans Mod.new).trans m6⟩
theorem c_wait {k : Nat} {w : Int} (r : YR L p Gs h adr Y) (sm : Sml (pdOf p) Gs Y) (hk : k < Y.ch.length) :
    Run (prg.call (n + 1) f_law_wait [.ref (adr .y), .int (k : Int), .int w] h) fun x h' => x = .non ∧ ∃ adr', YR L p Gs h' adr' { Y with ch := wait (pdOf p) Y.ch k w } ∧ Kp1 adr adr' ∧ Mod (Hi L) h h' := by
  refine run_q fun Q q => ?_
  have hy : hg h (adr .y) = some (.dct (yD p adr Y.clock Y.slot)) := r.at .y rfl
  have hw : hg h (adr .waits) = some (.lst (refsW Y.ch fun k => adr (.wt k))) := r.at .waits rfl
  have ee := ch_get hk
  have h2 : hg h (adr (.wt k)) = some (.lst ((chAt Y.ch k).map W.int)) := r.at (.wt k) (by simp [objs, ee, intsO])
  have rl : p.chans.length = Y.ch.length := by have := sm.rooms; simpa [pdOf] using this
  obtain ⟨c, ec⟩ : ∃ c, p.chans[k]? = some c := ⟨_, List.getElem?_eq_getElem (by omega)⟩
  have er : (pdOf p).rooms[k]?.getD 0 = c.2.2 := by simp [pdOf, ec]
  have rb := sm.room1 c.2.2 (by simp only [pdOf]; exact List.mem_map.mpr ⟨c, List.mem_of_getElem? ec, rfl⟩)
  have cl := sm.ch k _ ee
  rw [er] at cl
  have c1 : (chAt Y.ch k).length + 1 ≤ 16777216 := by omega
  have ea : atW (refsW Y.ch fun i => adr (.wt i)) ((k : Nat) : Int) = some (.ref (adr (.wt k))) := by rw [atW_nat, refsW_at hk]
  have eb : atW (p.chans.map (chanW p)) ((k : Nat) : Int) = some (chanW p c) := by rw [atW_nat, List.getElem?_map, ec]; rfl
  rw [u_law_wait]
  have kl : k < (refsW Y.ch fun i => adr (.wt i)).length := by rw [refsW_len]; exact hk
  simp [b_law_wait, hy, hw, ea, h2, c1, eb, chanW, cut_last _ rb.1, kl]
  have et : lastN c.2.2 ((chAt Y.ch k).map W.int ++ [.int w]) = (lastN c.2.2 (chAt Y.ch k ++ [w])).map W.int := by rw [← lastN_map]; simp
  rw [et]
  generalize eh : hn (hn h (O.lst [.int w])) (O.lst ((chAt Y.ch k).map W.int ++ [.int w])) = h4 at *
  have m4 : Mod no h h4 := by rw [← eh]; exact Mod.new.trans Mod.new
  have ex : nx h 2 = nx h4 0 := by rw [← eh]; simp
  rw [ex]
  obtain ⟨r6, m6⟩ := r.fresh (x := .wt k) (u := .waits) (o := intsO (lastN c.2.2 (chAt Y.ch k ++ [w]))) m4 (by simp) rfl (fun z => ob_wt hk _ _ z)
  refine q _ _ ⟨rfl, mv adr (.wt k) (nx h4 0), ?_, Kp1.wt _ _, m6⟩
  unfold wait
  rw [er]
  exact r6
/-- what an instruction of a guest asks of the board -/
def asks : Ins → Bool
  | .ask _ _ => true
  | .take _ _ => true
  | .time _ => true
  | _ => false
theorem c_answer {i : Ins} {clock : Int} (r : YR L p Gs h adr Y) (sm : Sml (pdOf p) Gs Y) (e0 : Y.own[g]? = some s) (hG : Gs[g]? = some G) (to : ∀ k ∈ G.to, k < Y.ch.length) (tl : G.to.length ≤ 100) (ok : InsOk i) (ha : asks i = true) :
    Run (prg.call (n + 1) f_law_answer [.ref (adr .y), .ref (adr (.m g)), insW i, .int clock] h) fun x h' => ∃ v, (answer G Y.ch clock i).1 = some v ∧ x = .int v ∧ YR L p Gs h' adr { Y with ch := (answer G Y.ch clock i).2 } ∧ Mod (Hi L) h h' := by
  refine run_q fun Q q => ?_
  have hy : hg h (adr .y) = some (.dct (yD p adr Y.clock Y.slot)) := r.at .y rfl
  have hm : hg h (adr (.m g)) = some (.dct (mDO adr g G s)) := r.at (.m g) (by simp [objs, e0, hG])
  have hw : hg h (adr .waits) = some (.lst (refsW Y.ch fun k => adr (.wt k))) := r.at .waits rfl
  have ht : hg h (adr (.to g)) = some (.lst ((G.to.map fun k => ((k : Nat) : Int)).map W.int)) := r.at (.to g) (by simp [objs, hG, intsO])
  rw [u_law_answer]
  have chan : ∀ {c : Int}, 0 ≤ c → c < G.to.length → atW (G.to.map (W.int ∘ fun k => ((k : Nat) : Int))) c = some (.int (nAt G.to c : Nat)) ∧ nAt G.to c < Y.ch.length := fun {c} c0 c1 => by
    obtain ⟨k, rfl⟩ : ∃ k : Nat, c = k := ⟨c.toNat, by omega⟩
    have ek : G.to[k]? = some (G.to[k]'(by omega)) := List.getElem?_eq_getElem (by omega)
    have en : nAt G.to (k : Int) = G.to[k]'(by omega) := by unfold nAt; rw [show ((k : Nat) : Int).toNat = k from rfl, ek]; rfl
    refine ⟨by rw [atW_nat, List.getElem?_map, ek, en]; rfl, ?_⟩
    rw [en]; exact to _ (List.getElem_mem ..)
  cases i with
  | time t =>
    simp [b_law_answer, insW, insL]
    exact q _ _ ⟨clock % 4294967296, rfl, rfl, r, Mod.rfl⟩
  | ask t c =>
    obtain ⟨_, c0, c1⟩ := ok
    simp [b_law_answer, insW, insL, hy, hm, ht]
    refine run_ite (fun b => ?_) (fun b => ?_)
    · have e1 : answer G Y.ch clock (.ask t c) = (some 0, Y.ch) := by simp [answer]; omega
      simp
      exact q _ _ ⟨0, by rw [e1], rfl, by rw [e1]; exact r, Mod.rfl⟩
    · obtain ⟨ec, kc⟩ := chan c0 (by omega)
      have ea : atW (refsW Y.ch fun i => adr (.wt i)) ((nAt G.to c : Nat) : Int) = some (.ref (adr (.wt (nAt G.to c)))) := by rw [atW_nat, refsW_at kc]
      have h2 : hg h (adr (.wt (nAt G.to c))) = some (.lst ((chAt Y.ch (nAt G.to c)).map W.int)) := r.at (.wt _) (by simp [objs, ch_get kc, intsO])
      have e1 : answer G Y.ch clock (.ask t c) = (some (((chAt Y.ch (nAt G.to c)).length : Nat) : Int), Y.ch) := by unfold answer; simp only; rw [if_pos (by omega)]
      simp [ec, hw, ea, h2]
      exact q _ _ ⟨_, by rw [e1], rfl, by rw [e1]; exact r, Mod.rfl⟩
  | take t c =>
    obtain ⟨_, c0, c1⟩ := ok
    simp [b_law_answer, insW, insL, hy, hm, ht]
    refine run_ite (fun b => ?_) (fun b => ?_)
    · have e1 : answer G Y.ch clock (.take t c) = (some 0, Y.ch) := by unfold answer; simp only; rw [if_neg (by omega)]
      simp
      exact q _ _ ⟨0, by rw [e1], rfl, by rw [e1]; exact r, Mod.rfl⟩
    · obtain ⟨ec, kc⟩ := chan c0 (by omega)
      have ea : atW (refsW Y.ch fun i => adr (.wt i)) ((nAt G.to c : Nat) : Int) = some (.ref (adr (.wt (nAt G.to c)))) := by rw [atW_nat, refsW_at kc]
      have h2 : hg h (adr (.wt (nAt G.to c))) = some (.lst ((chAt Y.ch (nAt G.to c)).map W.int)) := r.at (.wt _) (by simp [objs, ch_get kc, intsO])
      cases el : chAt Y.ch (nAt G.to c) with
      | nil =>
        have e1 : answer G Y.ch clock (.take t c) = (some 0, Y.ch) := by unfold answer; simp only; rw [if_pos (by omega), el]
        rw [el] at h2
        simp [ec, hw, ea, h2]
        exact q _ _ ⟨_, by rw [e1], rfl, by rw [e1]; exact r, Mod.rfl⟩
      | cons w l =>
        have e1 : answer G Y.ch clock (.take t c) = (some w, Y.ch.set (nAt G.to c) l) := by unfold answer; simp only; rw [if_pos (by omega), el]
        rw [el] at h2
        obtain ⟨r1, m1⟩ := r.set (x := .wt (nAt G.to c)) (o := intsO l) (Y' := { Y with ch := Y.ch.set (nAt G.to c) l }) (by simp [objs, ch_get kc]) (fun z => ob_wt0 kc _ z)
        simp [ec, hw, ea, h2]
        exact q _ _ ⟨_, by rw [e1], rfl, by rw [e1]; exact r1, m1⟩
  | _ => cases ha
end
end Nw

set_option Elab.async false
set_option linter.all false
set_option maxRecDepth 100000
set_option maxHeartbeats 2000000
/-! The laws' own system: what its steps keep. -/
namespace Nw
open PySem PySem.Spec PyProof.Rows L2
/-- a guest as laid -/
structure GdK (G : GD) (nch : Nat) : Prop where
  ins : ∀ i ∈ G.code, InsOk i
  len : G.code.length ≤ 30000
  base : 0 ≤ G.base
  to : ∀ k ∈ G.to, k < nch
  frm : ∀ k ∈ G.frm, k < nch
  tl : G.to.length ≤ 100
  fl : G.frm.length ≤ 100
def mg0 (G : GD) (s : LS) : MG := ⟨G.code, G.base, s.ans, .nil⟩
structure GS (G : GD) (s : LS) (b : Nat) : Prop where
  sm : SmG G s
  mw : MW (mg0 G s) b s.M
  an : ∀ x ∈ s.ans, isW x
  dd : ∀ w ∈ s.M.deeds, simW 50 w = true
structure YOk (p : PlanT) (Gs : List GD) (Y : YSt) (b : Nat) : Prop where
  sm : Sml (pdOf p) Gs Y
  gd : ∀ G ∈ Gs, GdK G Y.ch.length
  st : ∀ (g : Nat) (s : LS) (G : GD), Y.own[g]? = some s → Gs[g]? = some G → GS G s b
  wd : ∀ l ∈ Y.ch, ∀ x ∈ l, isW x
section
variable {P : PD} {p : PlanT} {Gs : List GD} {Y : YSt} {g b : Nat} {G : GD} {s s' : LS}
theorem MW.cast {a c : MG} {M : MS} (w : MW a b M) (e : a.ans = c.ans) : MW c b M := ⟨w.regs, w.isW, w.memW, by rw [← e]; exact w.given, w.deeds, w.met, w.at0⟩
theorem bring_len (G : GD) (inn : List (Int × Int)) (page : Int) (h : inn.length ≤ G.frames.length) (f0 : 2 ≤ G.frames.length) : (bringF G inn page).2.1.length ≤ G.frames.length := by
  unfold bringF
  split
  · simp; omega
  · split
    · simp at h ⊢; omega
    · simp; omega
theorem meet_smg (sg : SmG G s) (sh : SH) (a : Int) (came : Bool) : SmG G { s with inn := (meet P G s.inn sh a).inn, came := came } := by
  unfold meet
  cases frameOf s.inn (a / 16) with
  | some f => exact ⟨sg.fr, sg.f0, sg.f1, sg.inn, sg.ok⟩
  | none => exact ⟨sg.fr, sg.f0, sg.f1, bring_len G s.inn _ sg.inn sg.f0, (bring_frame (by have := sg.f0; omega) sg.ok).2⟩
theorem meet_sml (sm : Sml P Gs Y) (a : Int) (s' : LS) : Sml P Gs (Y.go g s' (meet P G s.inn Y.sh a).sh) := by
  have gsl : Gs.length = (Y.own.set g s').length := by rw [List.length_set]; exact sm.gs
  unfold meet
  cases frameOf s.inn (a / 16) with
  | some f =>
    refine ⟨by show (List.set _ _ _).length = _; rw [List.length_set]; exact sm.nset, sm.n0, sm.n1, fun l hl => ?_, ?_, sm.room, sm.ways, sm.rooms, sm.room1, sm.ch, gsl⟩
    · rcases List.mem_or_eq_of_mem_set (show l ∈ List.set _ _ _ from hl) with z | z
      · exact sm.set l z
      · rw [z]
        refine Nat.le_trans (List.length_take_le _ _) sm.ways.2
    · show (if hasP G Y.sh (a / 16) then Y.sh.pairs else lastN P.room _).length ≤ _
      split
      · exact sm.pairs
      · exact lastN_len _ _
  | none =>
    have d := sm.dropTo (bringF G s.inn (a / 16)).1 4
    rw [dropTo4] at d
    refine ⟨d.nset, sm.n0, sm.n1, d.set, ?_, sm.room, sm.ways, sm.rooms, sm.room1, sm.ch, gsl⟩
    show (match (bringF G s.inn (a / 16)).2.2 with | some q => _ | none => _ : List _).length ≤ _
    split
    · exact Nat.le_trans (List.length_filter_le _ _) sm.pairs
    · exact sm.pairs
theorem YOk.up (ok : YOk p Gs Y b) {c : Nat} (bc : b ≤ c) {Y' : YSt} (sm : Sml (pdOf p) Gs Y') (l : Y'.ch.length = Y.ch.length) (own : Y'.own = Y.own.set g s') (gs : ∀ s G, Y.own[g]? = some s → Gs[g]? = some G → GS G s' c) (wd : ∀ l ∈ Y'.ch, ∀ x ∈ l, isW x) : YOk p Gs Y' c := by
  refine ⟨sm, fun G hG => l ▸ ok.gd G hG, fun i s1 G1 h1 h2 => ?_, wd⟩
  rw [own] at h1
  by_cases c' : i = g
  · subst c'
    cases e : Y.own[i]? with
    | none =>
      rw [List.getElem?_eq_none (by rw [List.length_set]; exact List.getElem?_eq_none_iff.mp e)] at h1
      cases h1
    | some s0 =>
      rw [set_at e, if_pos rfl] at h1
      cases h1
      exact gs _ _ e h2
  · rw [List.getElem?_set_ne (fun z => c' z.symm)] at h1
    have := ok.st i s1 G1 h1 h2
    exact ⟨this.sm, ⟨this.mw.regs, this.mw.isW, this.mw.memW, this.mw.given, by have := this.mw.deeds; omega, by have := this.mw.met; omega, this.mw.at0⟩, this.an, this.dd⟩
theorem answer_ok {i : Ins} {ch : CH} {clock : Int} (hw : ∀ l ∈ ch, ∀ x ∈ l, isW x) (len : ∀ l ∈ ch, l.length ≤ 64) : (∀ v, (answer G ch clock i).1 = some v → isW v) ∧ (answer G ch clock i).2.length = ch.length ∧ (∀ l ∈ (answer G ch clock i).2, ∀ x ∈ l, isW x) ∧ ∀ (k : Nat) (l : List Int), (answer G ch clock i).2[k]? = some l → ∃ l' : List Int, ch[k]? = some l' ∧ l.length ≤ l'.length := by
  have z : isW 0 := ⟨by decide, by decide⟩
  have cl : ∀ k, (chAt ch k).length ≤ 64 := fun k => by
    unfold chAt
    cases e : ch[k]? with
    | none => simp
    | some l => exact len l (List.mem_of_getElem? e)
  have refl : ∀ (k : Nat) (l : List Int), ch[k]? = some l → ∃ l' : List Int, ch[k]? = some l' ∧ l.length ≤ l'.length := fun k l h => ⟨l, h, Nat.le_refl _⟩
  cases i with
  | time t => exact ⟨fun v hv => by cases hv; exact isW_mod _, rfl, hw, refl⟩
  | ask t c =>
    refine ⟨fun v hv => ?_, rfl, hw, refl⟩
    simp only [answer, Option.some.injEq] at hv
    rw [← hv]
    split
    · have := cl (nAt G.to c); exact isW_nat (by omega)
    · exact z
  | take t c =>
    unfold answer
    simp only
    split
    · cases e : chAt ch (nAt G.to c) with
      | nil => exact ⟨fun v hv => by cases hv; exact z, rfl, hw, refl⟩
      | cons w l =>
        have e2 : ch[nAt G.to c]? = some (w :: l) := by
          unfold chAt at e
          cases e3 : ch[nAt G.to c]? with
          | none => rw [e3] at e; cases e
          | some l' => rw [e3] at e; exact congrArg some e
        have hm := List.mem_of_getElem? e2
        refine ⟨fun v hv => by cases hv; exact hw _ hm _ (List.mem_cons_self ..), List.length_set .., fun l' hl' => ?_, fun k l' hl' => ?_⟩
        · rcases List.mem_or_eq_of_mem_set hl' with y | y
          · exact hw _ y
          · rw [y]; exact fun x hx => hw _ hm _ (List.mem_cons_of_mem _ hx)
        · simp only at hl'
          rw [set_at e2] at hl'
          split at hl'
          · rename_i c'; subst c'; cases hl'; exact ⟨_, e2, by simp⟩
          · exact refl k l' hl'
    · exact ⟨fun v hv => by cases hv; exact z, rfl, hw, refl⟩
  | _ => exact ⟨(fun v hv => by cases hv), rfl, hw, refl⟩
theorem step_sim {gm : MG} {M : MS} {i : Ins} (ok : InsOk i) (h : ∀ w ∈ M.deeds, simW 50 w = true) : ∀ w ∈ (step gm M i).deeds, simW 50 w = true := by
  have app : ∀ {l : List W} {d : W}, (∀ w ∈ l, simW 50 w = true) → simW 50 d = true → ∀ w ∈ l ++ [d], simW 50 w = true := fun hl hd w hw => by
    rcases List.mem_append.mp hw with z | z
    · exact hl w z
    · simp at z; rw [z]; exact hd
  cases i with
  | send p r => exact app h (by simp)
  | rest => exact app h (by simp)
  | ask r p | take r p | time r =>
    simp only [step, stepI]
    split
    · exact h
    · exact app h (by simp)
  | load r b n | store r b n | unl r n =>
    simp only [step, stepI]
    split <;> exact h
  | _ => exact h
/-- both meetings of a step -/
def metOf (P : PD) (G : GD) (s : LS) (sh : SH) : Met :=
  let m := meet P G s.inn sh s.M.at_
  if m.came then m else match reach G s.M (insAt G s.M) with
    | none => m
    | some a => let m2 := meet P G m.inn m.sh a; { m2 with spent := m.spent + m2.spent }
theorem step1_eq (P : PD) (G : GD) (s : LS) (sh : SH) (ch : CH) (clock : Int) (h : ¬ (G.code.length : Int) ≤ s.M.at_) : step1 P G ⟨s, sh, ch⟩ clock =
    if (metOf P G s sh).came then (wentOn ⟨s, sh, ch⟩ (metOf P G s sh), (metOf P G s sh).spent) else (doI P G (wentOn ⟨s, sh, ch⟩ (metOf P G s sh)) clock (insAt G s.M), (metOf P G s sh).spent + 1) := by
  unfold step1 metOf
  simp only [if_neg h]
  by_cases c : (meet P G s.inn sh s.M.at_).came = true
  · simp only [c, if_true]
  · simp only [c, Bool.false_eq_true, if_false]
    cases reach G s.M (insAt G s.M) with
    | none => simp only [c, Bool.false_eq_true, if_false]
    | some a => rfl
theorem meet_sml' (sm : Sml P Gs Y) (inn : List (Int × Int)) (a : Int) (s' : LS) : Sml P Gs (Y.go g s' (meet P G inn Y.sh a).sh) := meet_sml (s := { s' with inn := inn }) sm a s'
theorem metOf_sml (sm : Sml P Gs Y) (s' : LS) : Sml P Gs (Y.go g s' (metOf P G s Y.sh).sh) := by
  unfold metOf
  simp only
  split
  · exact meet_sml' sm _ _ s'
  · split
    · exact meet_sml' sm _ _ s'
    · have := meet_sml' (G := G) (meet_sml' (G := G) sm s.inn s.M.at_ s' (g := g)) (meet P G s.inn Y.sh s.M.at_).inn (by assumption) s' (g := g)
      rw [go_go] at this
      exact this
theorem metOf_smg (sg : SmG G s) (sh : SH) (came : Bool) : SmG G { s with inn := (metOf P G s sh).inn, came := came } := by
  unfold metOf
  simp only
  split
  · exact meet_smg sg _ _ _
  · split
    · exact meet_smg sg _ _ _
    · exact meet_smg (s := { s with inn := (meet P G s.inn sh s.M.at_).inn }) (meet_smg (s := s) sg _ _ s.came) _ _ _
/-- the board with a guest's step done -/
def YSt.st (Y : YSt) (g : Nat) (x : ST) : YSt := { Y with own := Y.own.set g x.s, sh := x.sh, ch := x.ch }
theorem GS.cast (a : GS G s b) (sg : SmG G s') (e1 : s'.M = s.M) (e2 : s'.ans = s.ans) {c : Nat} (bc : b ≤ c) : GS G s' c := by
  obtain ⟨_, mw, an, dd⟩ := a
  refine ⟨sg, ?_, e2 ▸ an, e1 ▸ dd⟩
  rw [e1]
  exact ⟨mw.regs, mw.isW, mw.memW, by show _ ≤ s'.ans.length; rw [e2]; exact mw.given, by have := mw.deeds; omega, by have := mw.met; omega, mw.at0⟩
theorem insAt_ok {M : MS} (gd : ∀ i ∈ G.code, InsOk i) : InsOk (insAt G M) := by
  unfold insAt
  cases e : G.code[M.at_.toNat]? with
  | none => trivial
  | some i => exact gd i (List.mem_of_getElem? e)
theorem doI_gs {x : ST} {clock : Int} (a : GS G x.s b) (gd : GdK G x.ch.length) (hw : ∀ l ∈ x.ch, ∀ w ∈ l, isW w) (len : ∀ l ∈ x.ch, l.length ≤ 64) (h : ¬ (G.code.length : Int) ≤ x.s.M.at_) : GS G (doI P G x clock (insAt G x.s.M)).s (b + 1) := by
  obtain ⟨sg, mw, an, dd⟩ := a
  have io := insAt_ok (M := x.s.M) gd.ins
  have cl := gd.len
  generalize insAt G x.s.M = i at *
  obtain ⟨av, _, _, _⟩ := answer_ok (G := G) (i := i) (clock := clock) hw len
  have aw : ∀ y ∈ ansOf x.s.ans (answer G x.ch clock i).1, isW y := by
    cases e : (answer G x.ch clock i).1 with
    | none => exact an
    | some v => intro y hy; simp [ansOf] at hy; rw [hy]; exact av v e
  have m0 : MW ⟨G.code, G.base, ansOf x.s.ans (answer G x.ch clock i).1, .nil⟩ b (preM x.s.M (answer G x.ch clock i).1) := by
    cases e : (answer G x.ch clock i).1 with
    | none => exact ⟨mw.regs, mw.isW, mw.memW, mw.given, mw.deeds, mw.met, mw.at0⟩
    | some v => exact ⟨mw.regs, mw.isW, mw.memW, Nat.zero_le _, mw.deeds, mw.met, mw.at0⟩
  have ea : (preM x.s.M (answer G x.ch clock i).1).at_ = x.s.M.at_ := by cases (answer G x.ch clock i).1 <;> rfl
  have ed : (preM x.s.M (answer G x.ch clock i).1).deeds = x.s.M.deeds := by cases (answer G x.ch clock i).1 <;> rfl
  have m1 := m0.step io aw (by rw [ea]; omega)
  have d1 := step_sim (gm := ⟨G.code, G.base, ansOf x.s.ans (answer G x.ch clock i).1, .nil⟩) (M := preM x.s.M (answer G x.ch clock i).1) io (by rw [ed]; exact dd)
  have a0 := mw.at0
  refine ⟨⟨sg.fr, sg.f0, sg.f1, sg.inn, sg.ok⟩, ?_, aw, ?_⟩
  · show MW _ _ (endAt _ _)
    unfold endAt
    split
    · exact m1
    · exact ⟨m1.regs, m1.isW, m1.memW, m1.given, m1.deeds, m1.met, a0⟩
  · show ∀ w ∈ (endAt _ _).deeds, _
    unfold endAt
    split
    · exact d1
    · exact d1
theorem wait_ok {ch : CH} {k : Nat} {w : Int} (hw : ∀ l ∈ ch, ∀ x ∈ l, isW x) (ww : isW w) (hk : k < ch.length) (len : ∀ (i : Nat) (l : List Int), ch[i]? = some l → l.length ≤ P.rooms[i]?.getD 0) : (wait P ch k w).length = ch.length ∧ (∀ l ∈ wait P ch k w, ∀ x ∈ l, isW x) ∧ ∀ (i : Nat) (l : List Int), (wait P ch k w)[i]? = some l → l.length ≤ P.rooms[i]?.getD 0 := by
  have e : ch[k]? = some ch[k] := List.getElem?_eq_getElem hk
  refine ⟨List.length_set .., fun l hl => ?_, fun i l hl => ?_⟩
  · rcases List.mem_or_eq_of_mem_set hl with z | z
    · exact hw l z
    · intro x hx
      rw [z] at hx
      rcases List.mem_append.mp (List.mem_of_mem_drop hx) with y | y
      · unfold chAt at y; rw [e] at y; exact hw _ (List.getElem_mem hk) x y
      · simp at y; rw [y]; exact ww
  · unfold wait at hl
    rw [set_at e] at hl
    split at hl
    · rename_i c; subst c; cases hl; exact lastN_len _ _
    · exact len i l hl
theorem sent_ok {M : MS} {ch : CH} {i : Ins} (hw : ∀ l ∈ ch, ∀ x ∈ l, isW x) (rw_ : ∀ x ∈ M.regs, isW x) (fr : ∀ k ∈ G.frm, k < ch.length) (ok : InsOk i) (len : ∀ (i : Nat) (l : List Int), ch[i]? = some l → l.length ≤ P.rooms[i]?.getD 0) : (sent P G M ch i).length = ch.length ∧ (∀ l ∈ sent P G M ch i, ∀ x ∈ l, isW x) ∧ ∀ (j : Nat) (l : List Int), (sent P G M ch i)[j]? = some l → l.length ≤ P.rooms[j]?.getD 0 := by
  cases i with
  | send c r =>
    unfold sent
    simp only
    split
    · rename_i hc
      refine wait_ok hw (isW_gI rw_ _) (fr _ ?_) len
      unfold nAt
      rw [List.getElem?_eq_getElem hc]
      exact List.getElem_mem hc
    · exact ⟨rfl, hw, len⟩
  | _ => exact ⟨rfl, hw, len⟩
theorem Sml.ch' (sm : Sml P Gs Y) {ch : CH} (l : ch.length = Y.ch.length) (h : ∀ (k : Nat) (l : List Int), ch[k]? = some l → l.length ≤ P.rooms[k]?.getD 0) : Sml P Gs { Y with ch := ch } :=
  ⟨sm.nset, sm.n0, sm.n1, sm.set, sm.pairs, sm.room, sm.ways, sm.rooms.trans l.symm, sm.room1, h, sm.gs⟩
theorem Sml.len64 (sm : Sml P Gs Y) : ∀ l ∈ Y.ch, l.length ≤ 64 := fun l hl => by
  obtain ⟨k, hk⟩ := List.mem_iff_getElem?.mp hl
  have h1 := sm.ch k l hk
  cases e : P.rooms[k]? with
  | none => rw [e] at h1; simp at h1; simp [h1]
  | some r => rw [e] at h1; have := sm.room1 r (List.mem_of_getElem? e); simp at h1; omega
theorem step1_ok {clock : Int} (ok : YOk p Gs Y b) (e0 : Y.own[g]? = some s) (hG : Gs[g]? = some G) : YOk p Gs (Y.st g (step1 (pdOf p) G ⟨s, Y.sh, Y.ch⟩ clock).1) (b + 1) := by
  have a := ok.st g s G e0 hG
  have gd := ok.gd G (List.mem_of_getElem? hG)
  have fix : ∀ {s' : LS} {c : Nat}, GS G s' c → ∀ s1 G1, Y.own[g]? = some s1 → Gs[g]? = some G1 → GS G1 s' c := fun h s1 G1 h1 h2 => by rw [hG] at h2; cases h2; exact h
  by_cases c : (G.code.length : Int) ≤ s.M.at_
  · have e : (step1 (pdOf p) G ⟨s, Y.sh, Y.ch⟩ clock).1 = ⟨{ s with M := { s.M with word := (S [102, 97, 117, 108, 116]) }, came := false }, Y.sh, Y.ch⟩ := by unfold step1; rw [if_pos c]
    rw [e]
    refine ok.up (by omega) (Y' := Y.st g _) ⟨ok.sm.nset, ok.sm.n0, ok.sm.n1, ok.sm.set, ok.sm.pairs, ok.sm.room, ok.sm.ways, ok.sm.rooms, ok.sm.room1, ok.sm.ch, by show _ = (List.set _ _ _).length; rw [List.length_set]; exact ok.sm.gs⟩ rfl rfl (fix ?_) ok.wd
    exact ⟨⟨a.sm.fr, a.sm.f0, a.sm.f1, a.sm.inn, a.sm.ok⟩, ⟨a.mw.regs, a.mw.isW, a.mw.memW, a.mw.given, by have := a.mw.deeds; show s.M.deeds.length ≤ _; omega, by have := a.mw.met; show s.M.met.length ≤ _; omega, a.mw.at0⟩, a.an, a.dd⟩
  · rw [step1_eq _ _ _ _ _ _ c]
    have sml := fun s' => metOf_sml (g := g) (G := G) (s := s) ok.sm s'
    have smg := metOf_smg (P := pdOf p) a.sm Y.sh
    generalize metOf (pdOf p) G s Y.sh = m at *
    by_cases cm : m.came = true
    · rw [if_pos cm]
      exact ok.up (by omega) (Y' := Y.st g _) (sml _) rfl rfl (fix (a.cast (smg m.came) rfl rfl (by omega))) ok.wd
    · rw [if_neg cm]
      have a1 : GS G (wentOn ⟨s, Y.sh, Y.ch⟩ m).s b := a.cast (smg m.came) rfl rfl (Nat.le_refl _)
      have a2 := doI_gs (P := pdOf p) (clock := clock) a1 gd ok.wd ok.sm.len64 c
      have io := insAt_ok (M := s.M) gd.ins
      obtain ⟨_, al, aw, ak⟩ := answer_ok (G := G) (i := insAt G s.M) (clock := clock) ok.wd ok.sm.len64
      have al' : ∀ (k : Nat) (l : List Int), (answer G Y.ch clock (insAt G s.M)).2[k]? = some l → l.length ≤ (pdOf p).rooms[k]?.getD 0 := fun k l hl => by
        obtain ⟨l', h1, h2⟩ := ak k l hl
        exact Nat.le_trans h2 (ok.sm.ch k l' h1)
      obtain ⟨sl, sw, sk⟩ := sent_ok (P := pdOf p) (G := G) (M := s.M) (i := insAt G s.M) aw a.mw.isW (fun k hk => by rw [al]; exact gd.frm k hk) io al'
      exact ok.up (by omega) (Y' := Y.st g _) ((sml _).ch' (sl.trans al) sk) (sl.trans al) rfl (fix a2) sw
end
end Nw

set_option Elab.async false
set_option linter.all false
set_option maxRecDepth 100000
set_option maxHeartbeats 2000000
/-! The laws' own system: a step. -/
namespace Nw
open PySem PySem.Spec PyProof.Rows L2
section
variable {n : Nat} {L : Nat} {p : PlanT} {P : PD} {Gs : List GD} {h h' : VH} {adr adr' : Rl → Nat} {Y : YSt} {g b : Nat} {G : GD} {s s' : LS}
theorem YR.mr (r : YR L p Gs h adr Y) (e0 : Y.own[g]? = some s) (hG : Gs[g]? = some G) : MR h (mgO adr g G s) (adr (.m g)) (adr (.mem g)) (adr (.regs g)) (adr (.deeds g)) (adr (.met g)) s.M := by
  have a1 : (objs p Gs adr Y (.mem g)).isSome = true := by simp [objs, e0]
  have a2 : (objs p Gs adr Y (.regs g)).isSome = true := by simp [objs, e0]
  have a3 : (objs p Gs adr Y (.deeds g)).isSome = true := by simp [objs, e0]
  have a4 : (objs p Gs adr Y (.met g)).isSome = true := by simp [objs, e0]
  exact ⟨r.at (.m g) (by simp [objs, e0, hG, mDO]), r.at (.mem g) (by simp [objs, e0, intsO]), r.at (.regs g) (by simp [objs, e0, intsO]), r.at (.deeds g) (by simp [objs, e0]), r.at (.met g) (by simp [objs, e0]),
    r.v.ne a1 a2 (by simp), r.v.ne a1 a3 (by simp), r.v.ne a1 a4 (by simp), r.v.ne a2 a3 (by simp), r.v.ne a2 a4 (by simp), r.v.ne a3 a4 (by simp)⟩
theorem ob_all (e0 : Y.own[g]? = some s) (hG : Gs[g]? = some G) (M : MS) (x : Rl) :
    objs p Gs adr (Y.up g { s with M := M }) x = if x = .m g then some (.dct (mDO adr g G { s with M := M })) else if x = .mem g then some (intsO M.mem) else if x = .regs g then some (intsO M.regs) else if x = .deeds g then some (.lst M.deeds) else if x = .met g then some (.lst M.met) else objs p Gs adr Y x := by
  cases x with
  | m i =>
    simp only [objs, YSt.up, set_at e0, Rl.m.injEq]
    by_cases c : i = g
    · subst c; simp [hG]
    · simp [c]
  | mem i | regs i | deeds i | met i | inn i =>
    simp only [objs, YSt.up, set_at e0]
    by_cases c : i = g
    · subst c; simp [e0]
    · simp [c]
  | own => simp [objs, refs_up]
  | _ => simp [objs, YSt.up]
theorem YR.ofMR {M : MS} (r : YR L p Gs h adr Y) (e0 : Y.own[g]? = some s) (hG : Gs[g]? = some G) (a : MR h' (mgO adr g G s) (adr (.m g)) (adr (.mem g)) (adr (.regs g)) (adr (.deeds g)) (adr (.met g)) M) (md : Mod (MF (adr (.m g)) (adr (.mem g)) (adr (.regs g)) (adr (.deeds g)) (adr (.met g))) h h') :
    YR L p Gs h' adr (Y.up g { s with M := M }) ∧ Mod (Hi L) h h' := by
  have b0 : (objs p Gs adr Y (.m g)).isSome = true := by simp [objs, e0, hG]
  have b1 : (objs p Gs adr Y (.mem g)).isSome = true := by simp [objs, e0]
  have b2 : (objs p Gs adr Y (.regs g)).isSome = true := by simp [objs, e0]
  have b3 : (objs p Gs adr Y (.deeds g)).isSome = true := by simp [objs, e0]
  have b4 : (objs p Gs adr Y (.met g)).isSome = true := by simp [objs, e0]
  have live : ∀ z, (objs p Gs adr (Y.up g { s with M := M }) z).isSome = true → (objs p Gs adr Y z).isSome = true := fun z hz => by
    rw [ob_all e0 hG] at hz
    split at hz; · rename_i c; rw [c]; exact b0
    split at hz; · rename_i c; rw [c]; exact b1
    split at hz; · rename_i c; rw [c]; exact b2
    split at hz; · rename_i c; rw [c]; exact b3
    split at hz; · rename_i c; rw [c]; exact b4
    exact hz
  refine ⟨⟨⟨fun z o hz => ?_, fun z t hz ht => r.v.inj z t (live z hz) (live t ht)⟩, fun z hz => r.low z (live z hz)⟩, md.mono fun q _ hq => ?_⟩
  · rw [ob_all e0 hG] at hz
    split at hz
    · rename_i c; rw [c]; cases hz; exact a.hm
    split at hz
    · rename_i c; rw [c]; cases hz; exact a.hmm
    split at hz
    · rename_i c; rw [c]; cases hz; exact a.hrr
    split at hz
    · rename_i c; rw [c]; cases hz; exact a.hrd
    split at hz
    · rename_i c; rw [c]; cases hz; exact a.hrt
    rename_i c0 c1 c2 c3 c4
    have lz : (objs p Gs adr Y z).isSome = true := by rw [hz]; rfl
    refine md.get (r.v.get z o hz) ?_
    rintro (q | q | q | q | q)
    · exact c0 (r.v.inj _ _ lz b0 q)
    · exact c1 (r.v.inj _ _ lz b1 q)
    · exact c2 (r.v.inj _ _ lz b2 q)
    · exact c3 (r.v.inj _ _ lz b3 q)
    · exact c4 (r.v.inj _ _ lz b4 q)
  · rcases hq with q | q | q | q | q
    · rw [q]; exact r.low _ b0
    · rw [q]; exact r.low _ b1
    · rw [q]; exact r.low _ b2
    · rw [q]; exact r.low _ b3
    · rw [q]; exact r.low _ b4
theorem YR.atM (r : YR L p Gs h adr Y) (e0 : Y.own[g]? = some s) (hG : Gs[g]? = some G) : hg h (adr (.m g)) = some (.dct (mDO adr g G s)) := r.at (.m g) (by simp only [objs, e0, hG])
theorem Sml.up (sm : Sml P Gs Y) (s' : LS) : Sml P Gs (Y.up g s') := ⟨sm.nset, sm.n0, sm.n1, sm.set, sm.pairs, sm.room, sm.ways, sm.rooms, sm.room1, sm.ch, by show _ = (List.set _ _ _).length; rw [List.length_set]; exact sm.gs⟩
theorem Kp1.m (k : Kp1 adr adr') : adr' (.m g) = adr (.m g) := k _ (by simp) (by simp) (by simp) (by simp) (by simp)
theorem Kp1.y (k : Kp1 adr adr') : adr' .y = adr .y := k _ (by simp) (by simp) (by simp) (by simp) (by simp)
theorem Kp1.mem (k : Kp1 adr adr') : adr' (.mem g) = adr (.mem g) := k _ (by simp) (by simp) (by simp) (by simp) (by simp)
theorem Kp1.regs (k : Kp1 adr adr') : adr' (.regs g) = adr (.regs g) := k _ (by simp) (by simp) (by simp) (by simp) (by simp)
theorem Kp1.frm (k : Kp1 adr adr') : adr' (.frm g) = adr (.frm g) := k _ (by simp) (by simp) (by simp) (by simp) (by simp)
theorem step_ext {g1 g2 : MG} {M : MS} (i : Ins) (e1 : g1.base = g2.base) (e2 : g1.ans = g2.ans) : step g1 M i = step g2 M i := by
  unfold step
  cases i <;> simp only [stepI, e1, e2]
theorem pre_mw {i : Ins} {ch : CH} {clock : Int} (a : GS G s b) : MW ⟨G.code, G.base, ansOf s.ans (answer G ch clock i).1, .nil⟩ b (preM s.M (answer G ch clock i).1) := by
  obtain ⟨sg, mw, an, dd⟩ := a
  cases e : (answer G ch clock i).1 with
  | none => exact ⟨mw.regs, mw.isW, mw.memW, mw.given, mw.deeds, mw.met, mw.at0⟩
  | some v => exact ⟨mw.regs, mw.isW, mw.memW, Nat.zero_le _, mw.deeds, mw.met, mw.at0⟩
theorem c_step {clock : Int} (r : YR L p Gs h adr Y) (ok : YOk p Gs Y b) (hb : b < 1000000) (e0 : Y.own[g]? = some s) (hG : Gs[g]? = some G) :
    Run (prg.call (n + 3) f_law_step [.ref (adr .y), .ref (adr (.m g)), .int clock] h) fun x h' => x = .int (step1 (pdOf p) G ⟨s, Y.sh, Y.ch⟩ clock).2 ∧ ∃ adr', YR L p Gs h' adr' (Y.st g (step1 (pdOf p) G ⟨s, Y.sh, Y.ch⟩ clock).1) ∧ Kp1 adr adr' ∧ Mod (Hi L) h h' := by
  refine run_q fun Q q => ?_
  have a := ok.st g s G e0 hG
  have gd := ok.gd G (List.mem_of_getElem? hG)
  have hm : hg h (adr (.m g)) = some (.dct (mDO adr g G s)) := r.at (.m g) (by simp [objs, e0, hG])
  have cl := gd.len
  have at0 := a.mw.at0
  obtain ⟨r0, m0⟩ := r.gm e0 hG { s with came := false } rfl rfl rfl rfl rfl
  have e1 : (Y.up g { s with came := false }).own[g]? = some { s with came := false } := up_at e0
  have eup : Y.up g { s with came := false } = Y.go g { s with came := false } Y.sh := rfl
  rw [u_law_step]
  by_cases c : (G.code.length : Int) ≤ s.M.at_
  · have e : step1 (pdOf p) G ⟨s, Y.sh, Y.ch⟩ clock = (⟨{ s with M := { s.M with word := (S [102, 97, 117, 108, 116]) }, came := false }, Y.sh, Y.ch⟩, 1) := by unfold step1; rw [if_pos c]
    rw [e] at q
    obtain ⟨r1, m1⟩ := r0.gm e1 hG { s with M := { s.M with word := (S [102, 97, 117, 108, 116]) }, came := false } rfl rfl rfl rfl rfl
    simp [b_law_step, hm, c]
    refine q _ _ ⟨rfl, adr, ?_, .rfl, m0.trans m1⟩
    have e2 : (Y.up g { s with came := false }).up g { s with M := { s.M with word := (S [102, 97, 117, 108, 116]) }, came := false } = Y.st g ⟨{ s with M := { s.M with word := (S [102, 97, 117, 108, 116]) }, came := false }, Y.sh, Y.ch⟩ := by simp [YSt.up, YSt.st]
    rw [e2] at r1
    exact r1
  · rw [step1_eq _ _ _ _ _ _ c] at q
    have hi : insAt G s.M = G.code[s.M.at_.toNat]'(by omega) := by unfold insAt; rw [List.getElem?_eq_getElem (by omega)]; rfl
    have io := insAt_ok (M := s.M) gd.ins
    have ei : atW (G.code.map insW) s.M.at_ = some (insW (insAt G s.M)) := by rw [atW_pos at0, List.getElem?_map, List.getElem?_eq_getElem (by omega), hi]; rfl
    refine run_cut 5 (fun env h' => env 0 = some (.ref (adr .y)) ∧ env 1 = some (.ref (adr (.m g))) ∧ env 2 = some (.int clock) ∧ env 3 = some (.int s.M.at_) ∧ env 4 = some (insW (insAt G s.M)) ∧ env 5 = some (.int (metOf (pdOf p) G s Y.sh).spent) ∧
      ∃ adr', YR L p Gs h' adr' (Y.go g { s with inn := (metOf (pdOf p) G s Y.sh).inn, came := (metOf (pdOf p) G s Y.sh).came } (metOf (pdOf p) G s Y.sh).sh) ∧ Kp1 adr adr' ∧ Mod (Hi L) h h') ?_ ?_
    · refine run_q fun Q1 q1 => ?_
      have hm0 : hg (hs h (adr (.m g)) (.dct (mDO adr g G { s with came := false }))) (adr (.m g)) = some (.dct (mDO adr g G { s with came := false })) := r0.at (.m g) (by simp only [objs, e1, hG])
      simp [b_law_step, hm, c]
      generalize hs h (adr (.m g)) (.dct (mDO adr g G { s with came := false })) = h0 at *
      simp [hm0, c, ei]
      refine run_bind (c_meet (n := n) (a := s.M.at_) r0 (ok.sm.up _) e1 hG ⟨a.sm.fr, a.sm.f0, a.sm.f1, a.sm.inn, a.sm.ok⟩ at0 (by omega) rfl) ?_
      rintro _ h1 ⟨rfl, adr1, r1, k1, m1⟩
      have r1 : YR L p Gs h1 adr1 (Y.go g { s with inn := (meet (pdOf p) G s.inn Y.sh s.M.at_).inn, came := (meet (pdOf p) G s.inn Y.sh s.M.at_).came } (meet (pdOf p) G s.inn Y.sh s.M.at_).sh) := by
        have := r1
        rw [eup, go_go] at this
        exact this
      have sml1 := meet_sml (g := g) (G := G) (s := s) ok.sm s.M.at_ { s with inn := (meet (pdOf p) G s.inn Y.sh s.M.at_).inn, came := (meet (pdOf p) G s.inn Y.sh s.M.at_).came }
      have smg1 := meet_smg (P := pdOf p) a.sm Y.sh s.M.at_ (meet (pdOf p) G s.inn Y.sh s.M.at_).came
      have emo : metOf (pdOf p) G s Y.sh = if (meet (pdOf p) G s.inn Y.sh s.M.at_).came then meet (pdOf p) G s.inn Y.sh s.M.at_ else match reach G s.M (insAt G s.M) with
        | none => meet (pdOf p) G s.inn Y.sh s.M.at_
        | some a => { meet (pdOf p) G (meet (pdOf p) G s.inn Y.sh s.M.at_).inn (meet (pdOf p) G s.inn Y.sh s.M.at_).sh a with spent := (meet (pdOf p) G s.inn Y.sh s.M.at_).spent + (meet (pdOf p) G (meet (pdOf p) G s.inn Y.sh s.M.at_).inn (meet (pdOf p) G s.inn Y.sh s.M.at_).sh a).spent } := rfl
      rw [emo] at q1
      show Run (k_seq _ _ (W.int (meet (pdOf p) G s.inn Y.sh s.M.at_).spent) h1) Q1
      generalize meet (pdOf p) G s.inn Y.sh s.M.at_ = x at *
      have mm := m0.trans m1
      have h1m := r1.at (.m g) (o := .dct (mDO adr1 g G { s with inn := x.inn, came := x.came })) (by simp only [objs, go_at e0, hG])
      have h1r := r1.at (.regs g) (o := intsO s.M.regs) (by simp only [objs, go_at e0]; rfl)
      have h1e := r1.at (.mem g) (o := intsO s.M.mem) (by simp only [objs, go_at e0]; rfl)
      rw [k1.m] at h1m
      cases cm : x.came with
      | true =>
        simp only [cm, if_true] at q1 r1 h1m
        simp [h1m]
        exact q1 _ _ ⟨rfl, by simp, by simp, by simp, by simp, by simp, by simp, adr1, r1, k1, mm⟩
      | false =>
        simp only [cm, if_false, Bool.false_eq_true] at q1 r1 h1m sml1 smg1
        generalize insAt G s.M = i at *
        have oth : (∀ r b n, i ≠ .load r b n) → (∀ r b n, i ≠ .store r b n) → reach G s.M i = none := fun h1 h2 => by
          cases i with
          | load r b n => exact absurd rfl (h1 r b n)
          | store r b n => exact absurd rfl (h2 r b n)
          | _ => rfl
        cases i with
        | load r b k =>
          obtain ⟨_, ⟨b0, b1⟩, k0, k1'⟩ := io
          have rl := a.mw.regs
          have e2 := at_gI (l := s.M.regs) (i := b) b0 (by omega)
          have rw2 := isW_gI a.mw.isW b
          simp [h1m, insW, insL, h1r, h1e, intsO, e2]
          refine run_ite (fun c2 => ?_) (fun c2 => ?_)
          · have er : reach G s.M (.load r b k) = some ((gI s.M.regs b + k) % 4294967296) := by unfold reach; simp only; rw [if_pos c2]
            rw [er] at q1
            have w2 := isW_mod (gI s.M.regs b + k)
            generalize (gI s.M.regs b + k) % 4294967296 = ad at *
            have cm2 := c_meet (n := n) (a := ad) r1 sml1 (go_at e0 _ _) hG smg1 w2.1 w2.2 rfl
            rw [k1.y, k1.m] at cm2
            refine run_bind cm2 ?_
            rintro _ h2 ⟨rfl, adr2, r2, k2, m2⟩
            rw [go_go] at r2
            simp
            exact q1 _ _ ⟨rfl, by simp, by simp, by simp, by simp, by simp [insW, insL], by simp; rfl, adr2, r2, k1.trans k2, mm.trans m2⟩
          · have er : reach G s.M (.load r b k) = none := by unfold reach; simp only; rw [if_neg c2]
            rw [er] at q1
            simp [c2]
            exact q1 _ _ ⟨rfl, by simp, by simp, by simp, by simp, by simp [insW, insL], by simp, adr1, by simp only [cm]; exact r1, k1, mm⟩
        | store r b k =>
          obtain ⟨_, ⟨b0, b1⟩, k0, k1'⟩ := io
          have rl := a.mw.regs
          have e2 := at_gI (l := s.M.regs) (i := b) b0 (by omega)
          have w2 := isW_mod (gI s.M.regs b + k)
          simp [h1m, insW, insL, h1r, h1e, intsO, e2]
          by_cases c2 : (gI s.M.regs b + k) % 4294967296 < s.M.mem.length ∧ G.base ≤ (gI s.M.regs b + k) % 4294967296
          · have er : reach G s.M (.store r b k) = some ((gI s.M.regs b + k) % 4294967296) := by unfold reach; simp only; rw [if_pos c2]
            rw [er] at q1
            simp [c2.1, c2.2]
            generalize (gI s.M.regs b + k) % 4294967296 = ad at *
            have cm2 := c_meet (n := n) (a := ad) r1 sml1 (go_at e0 _ _) hG smg1 w2.1 w2.2 rfl
            rw [k1.y, k1.m] at cm2
            refine run_bind cm2 ?_
            rintro _ h2 ⟨rfl, adr2, r2, k2, m2⟩
            rw [go_go] at r2
            simp
            exact q1 _ _ ⟨rfl, by simp, by simp, by simp, by simp, by simp [insW, insL], by simp; rfl, adr2, r2, k1.trans k2, mm.trans m2⟩
          · have er : reach G s.M (.store r b k) = none := by unfold reach; simp only; rw [if_neg c2]
            rw [er] at q1
            by_cases c3 : (gI s.M.regs b + k) % 4294967296 < s.M.mem.length
            · have c4 : ¬ G.base ≤ (gI s.M.regs b + k) % 4294967296 := fun z => c2 ⟨c3, z⟩
              simp [c3, c4]
              exact q1 _ _ ⟨rfl, by simp, by simp, by simp, by simp, by simp [insW, insL], by simp, adr1, by simp only [cm]; exact r1, k1, mm⟩
            · simp [c3]
              exact q1 _ _ ⟨rfl, by simp, by simp, by simp, by simp, by simp [insW, insL], by simp, adr1, by simp only [cm]; exact r1, k1, mm⟩
        | _ =>
          rw [oth (by simp) (by simp)] at q1
          simp [h1m, insW, insL]
          exact q1 _ _ ⟨rfl, by simp, by simp, by simp, by simp, by simp [insW, insL], by simp, adr1, by simp only [cm]; exact r1, k1, mm⟩
    · rintro env h1 ⟨v0, v1, v2, v3, v4, v5, adr1, r1, k1, m1⟩
      have sml := fun s' => metOf_sml (g := g) (G := G) (s := s) ok.sm s'
      have smg := metOf_smg (P := pdOf p) a.sm Y.sh
      generalize metOf (pdOf p) G s Y.sh = x at *
      have h1m := r1.at (.m g) (o := .dct (mDO adr1 g G { s with inn := x.inn, came := x.came })) (by simp only [objs, go_at e0, hG])
      rw [k1.m] at h1m
      cases cm : x.came with
      | true =>
        simp only [cm, if_true] at q r1 h1m
        simp [b_law_step, v0, v1, v2, v3, v4, v5, h1m]
        exact q _ _ ⟨rfl, adr1, by simp only [wentOn, cm]; exact r1, k1, m1⟩
      | false =>
        simp only [cm, if_false, Bool.false_eq_true] at q r1 h1m sml smg
        refine run_cut 2 (fun env' h' => env' = env ∧ ∃ adr', YR L p Gs h' adr' { (Y.go g { s with inn := x.inn, came := false, ans := ansOf s.ans (answer G Y.ch clock (insAt G s.M)).1, M := preM s.M (answer G Y.ch clock (insAt G s.M)).1 } x.sh) with ch := sent (pdOf p) G s.M (answer G Y.ch clock (insAt G s.M)).2 (insAt G s.M) } ∧ Kp1 adr adr' ∧ Mod (Hi L) h h') ?_ ?_
        · refine run_q fun Q1 q1 => ?_
          have io := insAt_ok (M := s.M) gd.ins
          generalize insAt G s.M = i at *
          have e2 : (Y.go g { s with inn := x.inn, came := false } x.sh).own[g]? = some { s with inn := x.inn, came := false } := go_at e0 _ _
          have askC : asks i = true → ∃ K, prg.call (n + 2) f_law_answer [.ref (adr .y), .ref (adr (.m g)), insW i, .int clock] h1 = K ∧ Run K fun x1 h' => ∃ v, (answer G Y.ch clock i).1 = some v ∧ x1 = .int v ∧ YR L p Gs h' adr1 { (Y.go g { s with inn := x.inn, came := false } x.sh) with ch := (answer G Y.ch clock i).2 } ∧ Mod (Hi L) h1 h' := fun ha => by
            have := c_answer (n := n + 1) (clock := clock) r1 (sml _) e2 hG gd.to gd.tl io ha
            rw [k1.y, k1.m] at this
            exact ⟨_, rfl, this⟩
          have fin : ∀ {v : Int} {h3 : VH}, (answer G Y.ch clock i).1 = some v → sent (pdOf p) G s.M (answer G Y.ch clock i).2 i = (answer G Y.ch clock i).2 → YR L p Gs h3 adr1 { (Y.go g { s with inn := x.inn, came := false } x.sh) with ch := (answer G Y.ch clock i).2 } → Mod (Hi L) h1 h3 →
              hg h3 (adr (.m g)) = some (.dct (mDO adr1 g G { s with inn := x.inn, came := false })) ∧ hg (hs h3 (adr (.m g)) (.dct (mDO adr1 g G { s with inn := x.inn, came := false, ans := [v] }))) (adr (.m g)) = some (.dct (mDO adr1 g G { s with inn := x.inn, came := false, ans := [v] })) ∧
              Q1 (.nx, env) (hs (hs h3 (adr (.m g)) (.dct (mDO adr1 g G { s with inn := x.inn, came := false, ans := [v] }))) (adr (.m g)) (.dct (mDO adr1 g G { s with inn := x.inn, came := false, ans := [v], M := { s.M with given := 0 } }))) := fun {v h3} e1 e3 r3 m3 => by
            have f1 := r3.at (.m g) (o := .dct (mDO adr1 g G { s with inn := x.inn, came := false })) (by simp only [objs, go_at e0, hG])
            obtain ⟨r4, m4⟩ := r3.gm e2 hG { s with inn := x.inn, came := false, ans := [v] } rfl rfl rfl rfl rfl
            have f2 := r4.atM (up_at e2) hG
            obtain ⟨r5, m5⟩ := r4.gm (up_at e2) hG { s with inn := x.inn, came := false, ans := [v], M := { s.M with given := 0 } } rfl rfl rfl rfl rfl
            rw [k1.m] at f1 r4 m4 f2 r5 m5
            refine ⟨f1, f2, q1 _ _ ⟨rfl, rfl, adr1, ?_, k1, ((m1.trans m3).trans m4).trans m5⟩⟩
            rw [e1, e3]
            have e9 : ∀ (Z : YSt) (a1 a2 : LS), (Z.up g a1).up g a2 = Z.up g a2 := fun Z a1 a2 => by simp [YSt.up]
            rw [e9] at r5
            have e8 : (({ (Y.go g { s with inn := x.inn, came := false } x.sh) with ch := (answer G Y.ch clock i).2 } : YSt).up g { s with inn := x.inn, came := false, ans := [v], M := { s.M with given := 0 } }) = { (Y.go g { s with inn := x.inn, came := false, ans := ansOf s.ans (some v), M := preM s.M (some v) } x.sh) with ch := (answer G Y.ch clock i).2 } := by simp [YSt.up, YSt.go, ansOf, preM]
            rw [e8] at r5
            exact r5
          cases i with
          | ask t c =>
            obtain ⟨K, eK, rK⟩ := askC rfl
            simp [insW, insL] at eK
            simp [b_law_step, v0, v1, v2, v3, v4, v5, h1m, insW, insL, eK]
            refine run_bind rK ?_
            rintro _ h3 ⟨v, ev, rfl, r3, m3⟩
            obtain ⟨f1, f2, f3⟩ := fin ev rfl r3 m3
            simp [v1, f1, f2]
            exact f3
          | take t c =>
            obtain ⟨K, eK, rK⟩ := askC rfl
            simp [insW, insL] at eK
            simp [b_law_step, v0, v1, v2, v3, v4, v5, h1m, insW, insL, eK]
            refine run_bind rK ?_
            rintro _ h3 ⟨v, ev, rfl, r3, m3⟩
            obtain ⟨f1, f2, f3⟩ := fin ev rfl r3 m3
            simp [v1, f1, f2]
            exact f3
          | time t =>
            obtain ⟨K, eK, rK⟩ := askC rfl
            simp [insW, insL] at eK
            simp [b_law_step, v0, v1, v2, v3, v4, v5, h1m, insW, insL, eK]
            refine run_bind rK ?_
            rintro _ h3 ⟨v, ev, rfl, r3, m3⟩
            obtain ⟨f1, f2, f3⟩ := fin ev rfl r3 m3
            simp [v1, f1, f2]
            exact f3
          | send c t =>
            obtain ⟨⟨c0, c1⟩, t0, t1⟩ := io
            have h1f := r1.at (.frm g) (o := .lst ((G.frm.map fun k => ((k : Nat) : Int)).map W.int)) (by simp only [objs, hG]; rfl)
            have h1r := r1.at (.regs g) (o := .lst (s.M.regs.map W.int)) (by simp only [objs, go_at e0]; rfl)
            have rl := a.mw.regs
            have e4 := at_gI (l := s.M.regs) (i := t) t0 (by omega)
            simp [b_law_step, v0, v1, v2, v3, v4, v5, h1m, insW, insL, h1f]
            refine run_ite (fun c2 => ?_) (fun c2 => ?_)
            · obtain ⟨k, rfl⟩ : ∃ k : Nat, c = k := ⟨c.toNat, by omega⟩
              have ek : G.frm[k]? = some (G.frm[k]'(by omega)) := List.getElem?_eq_getElem (by omega)
              have en : nAt G.frm (k : Int) = G.frm[k]'(by omega) := by unfold nAt; rw [show ((k : Nat) : Int).toNat = k from rfl, ek]; rfl
              have e5 : atW (G.frm.map (W.int ∘ fun k => ((k : Nat) : Int))) ((k : Nat) : Int) = some (.int (nAt G.frm (k : Int) : Nat)) := by rw [atW_nat, List.getElem?_map, ek, en]; rfl
              have kc : nAt G.frm (k : Int) < Y.ch.length := by rw [en]; exact gd.frm _ (List.getElem_mem ..)
              have cw := c_wait (n := n + 1) (w := gI s.M.regs t) r1 (sml _) kc
              rw [k1.y] at cw
              simp [v0, v1, v4, h1m, h1f, h1r, e4, e5, insW, insL]
              refine run_bind cw ?_
              rintro _ h3 ⟨rfl, adr3, r3, k3, m3⟩
              simp
              have es : sent (pdOf p) G s.M Y.ch (.send (k : Int) t) = wait (pdOf p) Y.ch (nAt G.frm (k : Int)) (gI s.M.regs t) := by unfold sent; simp only; rw [if_pos (by omega)]
              refine q1 _ _ ⟨rfl, rfl, adr3, ?_, k1.trans k3, m1.trans m3⟩
              have : answer G Y.ch clock (.send (k : Int) t) = (none, Y.ch) := rfl
              rw [this, es]
              exact r3
            · have es : sent (pdOf p) G s.M Y.ch (.send c t) = Y.ch := by unfold sent; simp only; rw [if_neg (by omega)]
              simp
              refine q1 _ _ ⟨rfl, rfl, adr1, ?_, k1, m1⟩
              have : answer G Y.ch clock (.send c t) = (none, Y.ch) := rfl
              rw [this, es]
              exact r1
          | _ =>
            simp [b_law_step, v0, v1, v2, v3, v4, v5, h1m, insW, insL]
            exact q1 _ _ ⟨rfl, rfl, adr1, r1, k1, m1⟩
        · rintro _ h2 ⟨rfl, adr2, r2, k2, m2⟩
          have pm := pre_mw (i := insAt G s.M) (ch := Y.ch) (clock := clock) a
          have io := insAt_ok (M := s.M) gd.ins
          have e2 : ({ (Y.go g { s with inn := x.inn, came := false, ans := ansOf s.ans (answer G Y.ch clock (insAt G s.M)).1, M := preM s.M (answer G Y.ch clock (insAt G s.M)).1 } x.sh) with ch := sent (pdOf p) G s.M (answer G Y.ch clock (insAt G s.M)).2 (insAt G s.M) } : YSt).own[g]? = some { s with inn := x.inn, came := false, ans := ansOf s.ans (answer G Y.ch clock (insAt G s.M)).1, M := preM s.M (answer G Y.ch clock (insAt G s.M)).1 } := up_at e0
          have mr := r2.mr e2 hG
          have cin := c_instr (n := n) mr (pm.cast rfl) hb io gd.base
          rw [k2.m] at cin
          have ed : doI (pdOf p) G (wentOn ⟨s, Y.sh, Y.ch⟩ x) clock (insAt G s.M) = ⟨{ s with inn := x.inn, came := false, ans := ansOf s.ans (answer G Y.ch clock (insAt G s.M)).1, M := endAt s.M.at_ (step (mgO adr2 g G { s with inn := x.inn, came := false, ans := ansOf s.ans (answer G Y.ch clock (insAt G s.M)).1, M := preM s.M (answer G Y.ch clock (insAt G s.M)).1 }) (preM s.M (answer G Y.ch clock (insAt G s.M)).1) (insAt G s.M)) }, x.sh, sent (pdOf p) G s.M (answer G Y.ch clock (insAt G s.M)).2 (insAt G s.M)⟩ := by
            unfold doI wentOn
            rw [step_ext (g1 := mgO adr2 g G _) (g2 := ⟨G.code, G.base, ansOf s.ans (answer G Y.ch clock (insAt G s.M)).1, .nil⟩) _ rfl rfl, cm]
          rw [ed] at q
          simp only at cin
          generalize ansOf s.ans (answer G Y.ch clock (insAt G s.M)).1 = an at *
          generalize sent (pdOf p) G s.M (answer G Y.ch clock (insAt G s.M)).2 (insAt G s.M) = ch2 at *
          generalize preM s.M (answer G Y.ch clock (insAt G s.M)).1 = M2 at *
          generalize insAt G s.M = i at *
          simp [b_law_step, v0, v1, v2, v3, v4, v5]
          refine run_bind cin ?_
          rintro _ h3 ⟨rfl, mr3, m3⟩
          have em := k2.m (g := g)
          rw [← em] at mr3 m3
          obtain ⟨r3, m3''⟩ := r2.ofMR e2 hG mr3 m3
          generalize step (mgO adr2 g G { s with inn := x.inn, came := false, ans := an, M := M2 }) M2 i = M3 at *
          have h3m := r3.atM (up_at e2) hG
          rw [k2.m] at h3m
          simp [v1, h3m]
          refine run_ite (fun c => ?_) (fun c => ?_)
          · simp [v5]
            refine q _ _ ⟨rfl, adr2, ?_, k2, m2.trans m3''⟩
            have e7 : endAt s.M.at_ M3 = M3 := by unfold endAt; rw [if_pos c]
            rw [e7]
            have e8 : (({ (Y.go g { s with inn := x.inn, came := false, ans := an, M := M2 } x.sh) with ch := ch2 } : YSt).up g { s with inn := x.inn, came := false, ans := an, M := M3 }) = Y.st g ⟨{ s with inn := x.inn, came := false, ans := an, M := M3 }, x.sh, ch2⟩ := by simp [YSt.up, YSt.go, YSt.st]
            rw [e8] at r3
            exact r3
          · obtain ⟨r4, m4⟩ := r3.gm (up_at e2) hG { s with inn := x.inn, came := false, ans := an, M := { M3 with at_ := s.M.at_ } } rfl rfl rfl rfl rfl
            rw [em] at r4 m4
            simp [v1, v3, v5, h3m]
            refine q _ _ ⟨rfl, adr2, ?_, k2, (m2.trans m3'').trans m4⟩
            have e7 : endAt s.M.at_ M3 = { M3 with at_ := s.M.at_ } := by unfold endAt; rw [if_neg c]
            rw [e7]
            have e8 : ((({ (Y.go g { s with inn := x.inn, came := false, ans := an, M := M2 } x.sh) with ch := ch2 } : YSt).up g { s with inn := x.inn, came := false, ans := an, M := M3 }).up g { s with inn := x.inn, came := false, ans := an, M := { M3 with at_ := s.M.at_ } }) = Y.st g ⟨{ s with inn := x.inn, came := false, ans := an, M := { M3 with at_ := s.M.at_ } }, x.sh, ch2⟩ := by simp [YSt.up, YSt.go, YSt.st]
            rw [e8] at r4
            exact r4
end
end Nw

set_option Elab.async false
set_option linter.all false
set_option maxRecDepth 100000
set_option maxHeartbeats 2000000
/-! The laws' own system: a slot. -/
namespace Nw
open PySem PySem.Spec PyProof.Rows L2
section
variable {n : Nat} {L : Nat} {p : PlanT} {P : PD} {Gs : List GD} {h h' : VH} {adr adr' : Rl → Nat} {Y : YSt} {g b : Nat} {G : GD} {s s' : LS}
theorem isRest_eq (w : W) : isRest w = true ↔ w = .tup [.str (S [114, 101, 115, 116])] := by
  constructor
  · intro h
    unfold isRest at h
    split at h
    · rw [of_decide_eq_true h]
    · cases h
  · rintro rfl; rfl
theorem eqW_rest {w : W} (h0 : simW 50 w = true) : eqW h w (.tup [.str (S [114, 101, 115, 116])]) = some (isRest w) := by
  have e : eqW h w (.tup [.str (S [114, 101, 115, 116])]) = eqD h w (.tup [.str (S [114, 101, 115, 116])]) := by cases w <;> rfl
  have := Classical.propDecidable (w = .tup [.str (S [114, 101, 115, 116])])
  rw [e, eqD_sim h0 (by simp)]
  congr 1
  by_cases c : w = .tup [.str (S [114, 101, 115, 116])]
  · rw [(isRest_eq w).mpr c, decide_eq_true c]
  · rw [decide_eq_false c]
    cases e : isRest w with
    | false => rfl
    | true => exact absurd ((isRest_eq w).mp e) c
/-- empty lists, all new -/
theorem lc_news (l : List W) {its : Its} {f : W → VH → R (Option W)} (hl : itsL h its = some l) (ht : ∀ h', itsL h' its = itsL h its) (hlen : l.length ≤ 16777216) (hf : ∀ w h', f w h' = .ok (some (.ref (nx h' 0))) (hn h' (.lst []))) :
    Run (itK its f h) fun acc h' => acc = (List.range l.length).map (fun i => .ref (h.length + i)) ∧ h'.length = h.length + l.length ∧ (∀ i, i < l.length → hg h' (h.length + i) = some (.lst [])) ∧ Mod no h h' := by
  refine (lc_inv l (fun k acc h' => acc = (List.range k).map (fun i => .ref (h.length + i)) ∧ h'.length = h.length + k ∧ (∀ i, i < k → hg h' (h.length + i) = some (.lst [])) ∧ Mod no h h') ⟨rfl, rfl, fun i hi => absurd hi (by omega), Mod.rfl⟩ hlen (fun i acc h' _ => (ht h').trans hl) (fun k w acc h' hw ⟨e1, e2, e3, e4⟩ => ?_)).imp ?_
  · rw [hf]
    refine ⟨_, _, rfl, ?_, by rw [hn_len, e2]; omega, fun i hi => ?_, e4.trans Mod.new⟩
    · rw [e1, List.range_succ, List.map_append]
      simp [nx, e2]
    · by_cases c : i < k
      · exact (Mod.new (s := no)).get (e3 i c) (fun z => z)
      · have : h.length + i = nx h' 0 := by unfold nx; omega
        rw [this]; exact hg_new'
  · rintro acc h' ⟨q, _⟩
    exact q
theorem ob_deeds (e0 : Y.own[g]? = some s) (hG : Gs[g]? = some G) (a : Nat) (x : Rl) :
    objs p Gs (mv adr (.deeds g) a) (Y.up g { s with M := { s.M with deeds := [] } }) x = if x = .m g then some (.dct (mDO (mv adr (.deeds g) a) g G { s with M := { s.M with deeds := [] } })) else if x = .deeds g then some (.lst []) else objs p Gs adr Y x := by
  cases x with
  | m i =>
    simp only [objs, YSt.up, set_at e0, Rl.m.injEq]
    by_cases c : i = g
    · subst c; simp [hG]
    · simp only [if_neg c]
      have hne : ∀ s1 G1, mDO (mv adr (.deeds g) a) i G1 s1 = mDO adr i G1 s1 := fun s1 G1 => by
        have : ¬ Rl.deeds i = .deeds g := by simpa using c
        unfold mDO mgO extE extL mv
        simp [this]
      simp only [hne]
      simp
  | mem i | regs i | deeds i | met i | inn i =>
    simp only [objs, YSt.up, set_at e0]
    by_cases c : i = g
    · subst c; simp [e0]
    · simp [c]
  | own => simp [objs, refs_up, mv]
  | _ => simp [objs, YSt.up, mv, yD]
@[simp high] theorem mos_deeds (a : Nat) : dset (mDO adr g G s) (.inr (S [100, 101, 101, 100, 115])) (.ref a) = mDO (mv adr (.deeds g) a) g G s := by
  simp [mDO, mD, mgO, extE, extL, codeW, mv]
theorem Kp1.deeds' (i a : Nat) : Kp1 adr (mv adr (.deeds i) a) := fun x _ _ _ _ h => by unfold mv; rw [if_neg (h i)]
/-- the sets and the pairs, all new -/
def nsA (adr : Rl → Nat) (base a : Nat) : Rl → Nat
  | .set i => base + i
  | .sets => a
  | x => adr x
theorem YR.newSets {h1 : VH} {base N : Nat} (r : YR L p Gs h adr Y) (m : Mod no h h1) (hb : h.length ≤ base) (len : base + N ≤ h1.length) (new : ∀ i, i < N → hg h1 (base + i) = some (.lst [])) :
    YR L p Gs (hs (hn h1 (.lst ((List.range N).map fun i => .ref (base + i)))) (adr .y) (.dct (yD p (nsA adr base (nx h1 0)) Y.clock Y.slot))) (nsA adr base (nx h1 0)) { Y with sh := ⟨List.replicate N [], Y.sh.pairs⟩ } ∧
    Kp1 adr (nsA adr base (nx h1 0)) ∧ Mod (Hi L) h (hs (hn h1 (.lst ((List.range N).map fun i => .ref (base + i)))) (adr .y) (.dct (yD p (nsA adr base (nx h1 0)) Y.clock Y.slot))) := by
  have r1 := r.mno m
  have r2 := r1.mno (Mod.new (o := O.lst ((List.range N).map fun i => W.ref (base + i))))
  have ly := r.low .y rfl
  have hy1 := r.v.lt (x := .y) rfl
  have cls : ∀ z, (objs p Gs (nsA adr base (nx h1 0)) { Y with sh := ⟨List.replicate N [], Y.sh.pairs⟩ } z).isSome = true →
      (∃ i, z = .set i ∧ i < N) ∨ z = .sets ∨ (nsA adr base (nx h1 0) z = adr z ∧ (objs p Gs adr Y z).isSome = true ∧ (z ≠ .y → objs p Gs (nsA adr base (nx h1 0)) { Y with sh := ⟨List.replicate N [], Y.sh.pairs⟩ } z = objs p Gs adr Y z)) := fun z hz => by
    cases z with
    | set i =>
      left
      refine ⟨i, rfl, ?_⟩
      simp only [objs, Option.isSome_map] at hz
      by_cases c : i < N
      · exact c
      · rw [List.getElem?_eq_none (by simp; omega)] at hz; cases hz
    | sets => right; left; rfl
    | m i =>
      right; right
      refine ⟨rfl, hz, fun _ => ?_⟩
      simp only [objs]
      cases Y.own[i]? <;> cases Gs[i]? <;> rfl
    | y => right; right; exact ⟨rfl, rfl, fun c => absurd rfl c⟩
    | _ => right; right; exact ⟨rfl, hz, fun _ => rfl⟩
  refine ⟨⟨⟨fun z o hz => ?_, fun z t hz ht e => ?_⟩, fun z hz => ?_⟩, fun x h1 h2 h3 h4 h5 => ?_, (m.of_no.trans Mod.new).trans (Mod.set ly)⟩
  · rcases cls z (by rw [hz]; rfl) with ⟨i, rfl, hi⟩ | rfl | ⟨e1, e2, e3⟩
    · show hg _ (base + i) = _
      rw [hg_ne (by omega), hg_hn (by rw [new i hi]; rfl), new i hi]
      simp only [objs, List.getElem?_replicate, if_pos hi] at hz
      exact hz
    · show hg _ (nx h1 0) = _
      rw [hg_ne (by have := m.1; unfold nx; omega), hg_new']
      simp only [objs, refsW, List.length_replicate] at hz
      exact hz
    · rw [e1]
      by_cases c : z = .y
      · subst c
        rw [hg_hs (by rw [r2.at .y rfl]; rfl)]
        exact hz
      · rw [hg_ne (fun q => c (r.v.inj _ _ e2 rfl q.symm))]
        rw [e3 c] at hz
        exact r2.at z hz
  · rcases cls z hz with ⟨i, rfl, hi⟩ | rfl | ⟨e1, e2, _⟩ <;> rcases cls t ht with ⟨j, rfl, hj⟩ | rfl | ⟨f1, f2, _⟩
    · have : base + i = base + j := e
      have : i = j := by omega
      rw [this]
    · have : base + i = nx h1 0 := e
      unfold nx at this; omega
    · rw [f1] at e
      have : base + i = adr t := e
      have := r.v.lt f2
      omega
    · have : nx h1 0 = base + j := e
      unfold nx at this; omega
    · rfl
    · rw [f1] at e
      have : nx h1 0 = adr t := e
      have := r.v.lt f2
      have := m.1
      unfold nx at *; omega
    · rw [e1] at e
      have : adr z = base + j := e
      have := r.v.lt e2
      omega
    · rw [e1] at e
      have : adr z = nx h1 0 := e
      have := r.v.lt e2
      have := m.1
      unfold nx at *; omega
    · rw [e1, f1] at e
      exact r.v.inj _ _ e2 f2 e
  · rcases cls z hz with ⟨i, rfl, hi⟩ | rfl | ⟨e1, e2, _⟩
    · show L ≤ base + i; omega
    · show L ≤ nx h1 0; have := m.1; unfold nx; omega
    · rw [e1]; exact r.low z e2
  · cases x with
    | set i => exact absurd rfl (h1 i)
    | sets => exact absurd rfl h3
    | _ => rfl
end
end Nw

set_option Elab.async false
set_option linter.all false
set_option maxRecDepth 100000
set_option maxHeartbeats 2000000
/-! The laws' own system: a slot's steps. -/
namespace Nw
open PySem PySem.Spec PyProof.Rows L2
section
variable {n : Nat} {L : Nat} {p : PlanT} {P : PD} {Gs : List GD} {h h' : VH} {adr adr' : Rl → Nat} {Y : YSt} {g b : Nat} {G : GD} {s s' : LS}
theorem st_at (e0 : Y.own[g]? = some s) (x : ST) : (Y.st g x).own[g]? = some x.s := by unfold YSt.st; simp only; rw [set_at e0, if_pos rfl]
theorem st_st (x y : ST) : (Y.st g x).st g y = Y.st g y := by simp [YSt.st]
theorem atW_last (l : List W) (w : W) : atW (l ++ [w]) (-1) = some w := by
  unfold atW
  rw [if_neg (by omega), if_pos (by simp; omega)]
  have : (-1 + ((l ++ [w]).length : Int)).toNat = l.length := by simp; omega
  rw [this]
  simp
theorem slot_turn {env : Env} {t u c : Int} {x : ST} {w : W} (r : YR L p Gs h adr' (Y.st g x)) (ok : YOk p Gs (Y.st g x) b) (hb : b < 1000000) (e0 : Y.own[g]? = some s) (hG : Gs[g]? = some G)
    (v0 : env 0 = some (.ref (adr .y))) (v1 : env 1 = some (planW p)) (v3 : env 3 = some (.int t)) (v4 : env 4 = some (.ref (adr (.m g)))) (v5 : env 5 = some (.int u)) (v6 : env 6 = some (.int c)) (ay : adr' .y = adr .y) (am : adr' (.m g) = adr (.m g)) :
    Run (forF (prg.cfg (n + 3)) (.nm 7) l_law_slot_1 w env h) fun q h' => q.2 0 = some (.ref (adr .y)) ∧ q.2 1 = some (planW p) ∧ q.2 3 = some (.int t) ∧ q.2 4 = some (.ref (adr (.m g))) ∧ q.2 6 = some (.int c) ∧
      ((q.1 = .bk ∧ goesOn (pdOf p) x.s.M t u = false ∧ q.2 5 = some (.int u) ∧ YR L p Gs h' adr' (Y.st g x) ∧ Mod (Hi L) h h') ∨
       (q.1 = .nx ∧ goesOn (pdOf p) x.s.M t u = true ∧ q.2 5 = some (.int (u + (step1 (pdOf p) G x (c + u)).2)) ∧ ∃ adr2, YR L p Gs h' adr2 (Y.st g (step1 (pdOf p) G x (c + u)).1) ∧ Kp1 adr' adr2 ∧ Mod (Hi L) h h')) := by
  refine run_q fun Q q => ?_
  have e1 := st_at e0 x
  have a := ok.st g x.s G e1 hG
  have hm := r.atM e1 hG
  rw [am] at hm
  have hd := r.at (.deeds g) (o := .lst x.s.M.deeds) (by simp only [objs, e1]; rfl)
  have sd : x.s.M.deeds.all (simW 50) = true := List.all_eq_true.mpr a.dd
  have eqn : eqW (hn h (O.lst [])) (.ref (adr' (.deeds g))) (.ref (nx h 0)) = some x.s.M.deeds.isEmpty := eqW_nil ((Mod.new (s := no)).get hd (fun z => z)) (by simp) sd
  have wo : worstT p = (pdOf p).worst := rfl
  have r1 := r.mno (Mod.new (o := O.lst []))
  have cs := c_step (n := n) (clock := c + u) r1 ok hb e1 hG
  rw [ay, am, st_st] at cs
  have wr := fun h2 : VH => c_worst (n := n + 2) (p := p) (h := h2)
  have md : Mod (Hi L) h (hn h (O.lst [])) := Mod.new
  have h1m := (Mod.new (s := no) (o := O.lst [])).get hm (fun z => z)
  have h1d := (Mod.new (s := no) (o := O.lst [])).get hd (fun z => z)
  have e9 : (⟨x.s, (Y.st g x).sh, (Y.st g x).ch⟩ : ST) = x := rfl
  rw [e9] at cs
  by_cases cw : x.s.M.word = (S [])
  · have brk : ∀ {h2 : VH}, YR L p Gs h2 adr' (Y.st g x) → Mod (Hi L) h h2 → rested x.s.M.deeds = true ∨ worstT p > t - u → ∀ v : W, Q (.bk, setv (setv env 7 w) 8 v) h2 := fun r2 m2 hc v =>
      q _ _ ⟨by simp [v0], by simp [v1], by simp [v3], by simp [v4], by simp [v6], .inl ⟨rfl, by unfold goesOn; rw [← wo]; rcases hc with z | z <;> simp [z], by simp [v5], r2, m2⟩⟩
    have go : rested x.s.M.deeds = false → ¬ worstT p > t - u → ∀ (v : W) (h2 : VH) (adr2 : Rl → Nat), YR L p Gs h2 adr2 (Y.st g (step1 (pdOf p) G x (c + u)).1) → Kp1 adr' adr2 → Mod (Hi L) (hn h (.lst [])) h2 → Q (.nx, setv (setv (setv env 7 w) 8 v) 5 (.int (u + (step1 (pdOf p) G x (c + u)).2))) h2 := fun hr hc v h2 adr2 r2 k2 m2 =>
      q _ _ ⟨by simp [v0], by simp [v1], by simp [v3], by simp [v4], by simp [v6], .inr ⟨rfl, by unfold goesOn; rw [← wo, hr]; simp [cw]; omega, by simp, adr2, r2, k2, md.trans m2⟩⟩
    rcases List.eq_nil_or_concat x.s.M.deeds with cd | ⟨l, d, cd⟩
    · have hr : rested x.s.M.deeds = false := by rw [cd]; rfl
      simp [l_law_slot_1, v0, v1, v3, v4, v5, v6, hm, hd, eqn, cd, cw, h1m]
      refine run_bind (wr _) ?_
      rintro _ _ ⟨rfl, rfl⟩
      simp [v0, v3, v4, v5, v6]
      refine run_ite (fun cx => ?_) (fun cx => ?_)
      · simp; exact brk r1 md (.inr (by omega)) _
      · refine run_bind cs ?_
        rintro _ h2 ⟨rfl, adr2, r2, k2, m2⟩
        simp
        exact go hr (by omega) _ _ _ r2 k2 m2
    · have gl : x.s.M.deeds.getLast? = some d := by rw [cd]; simp
      have hr : rested x.s.M.deeds = isRest d := by unfold rested; rw [gl]
      have sd1 : simW 50 d = true := a.dd d (by rw [cd]; simp)
      have cne : ¬ x.s.M.deeds = [] := by rw [cd]; simp
      have ea : atW x.s.M.deeds (-1) = some d := by rw [cd, List.concat_eq_append]; exact atW_last l d
      simp [l_law_slot_1, v0, v1, v3, v4, v5, v6, hm, hd, eqn, cne, cw, h1m, h1d, ea, eqW_rest sd1]
      cases cr : isRest d with
      | true =>
        simp
        exact brk r1 md (.inl (by rw [hr, cr])) _
      | false =>
        simp
        refine run_bind (wr _) ?_
        rintro _ _ ⟨rfl, rfl⟩
        simp [v0, v3, v4, v5, v6]
        refine run_ite (fun cx => ?_) (fun cx => ?_)
        · simp; exact brk r1 md (.inr (by omega)) _
        · refine run_bind cs ?_
          rintro _ h2 ⟨rfl, adr2, r2, k2, m2⟩
          simp
          exact go (by rw [hr, cr]) (by omega) _ _ _ r2 k2 m2
  · have q1 : ∀ {h2 : VH}, YR L p Gs h2 adr' (Y.st g x) → Mod (Hi L) h h2 → ∀ v : W, Q (.bk, setv (setv env 7 w) 8 v) h2 := fun r2 m2 v =>
      q _ _ ⟨by simp [v0], by simp [v1], by simp [v3], by simp [v4], by simp [v6], .inl ⟨rfl, by unfold goesOn; simp [cw], by simp [v5], r2, m2⟩⟩
    rcases List.eq_nil_or_concat x.s.M.deeds with cd | ⟨l, d, cd⟩
    · simp [l_law_slot_1, v0, v1, v3, v4, v5, v6, hm, hd, eqn, cd, cw, h1m]
      exact q1 r1 md _
    · have sd1 : simW 50 d = true := a.dd d (by rw [cd]; simp)
      have cne : ¬ x.s.M.deeds = [] := by rw [cd]; simp
      have ea : atW x.s.M.deeds (-1) = some d := by rw [cd, List.concat_eq_append]; exact atW_last l d
      simp [l_law_slot_1, v0, v1, v3, v4, v5, v6, hm, hd, eqn, cne, cw, h1m, h1d, ea, eqW_rest sd1]
      exact q1 r1 md _
theorem YOk.le {c : Nat} (ok : YOk p Gs Y b) (h : b ≤ c) : YOk p Gs Y c := ⟨ok.sm, ok.gd, fun g s G h1 h2 => by
  have a := ok.st g s G h1 h2
  exact ⟨a.sm, ⟨a.mw.regs, a.mw.isW, a.mw.memW, a.mw.given, by have := a.mw.deeds; omega, by have := a.mw.met; omega, a.mw.at0⟩, a.an, a.dd⟩, ok.wd⟩
theorem step_st {x : ST} {k : Int} (ok : YOk p Gs (Y.st g x) b) (e0 : Y.own[g]? = some s) (hG : Gs[g]? = some G) : YOk p Gs (Y.st g (step1 (pdOf p) G x k).1) (b + 1) := by
  have := step1_ok (clock := k) ok (st_at e0 x) hG
  rw [st_st] at this
  exact this
theorem slot_loop {env : Env} {t u c : Int} {x : ST} {N : Nat} (r : YR L p Gs h adr (Y.st g x)) (ok : YOk p Gs (Y.st g x) b) (hb : b + N < 1000000) (e0 : Y.own[g]? = some s) (hG : Gs[g]? = some G)
    (v0 : env 0 = some (.ref (adr .y))) (v1 : env 1 = some (planW p)) (v3 : env 3 = some (.int t)) (v4 : env 4 = some (.ref (adr (.m g)))) (v5 : env 5 = some (.int u)) (v6 : env 6 = some (.int c)) :
    Run (forK (forF (prg.cfg (n + 3)) (.nm 7) l_law_slot_1) env (.ws (rangeW 0 N)) h) fun q h' => q.1 = .nx ∧ q.2 0 = some (.ref (adr .y)) ∧ q.2 3 = some (.int t) ∧ q.2 4 = some (.ref (adr (.m g))) ∧ q.2 6 = some (.int c) ∧ q.2 5 = some (.int (slotGo (pdOf p) G c t N x u).2) ∧
      ∃ adr', YR L p Gs h' adr' (Y.st g (slotGo (pdOf p) G c t N x u).1) ∧ YOk p Gs (Y.st g (slotGo (pdOf p) G c t N x u).1) (b + N) ∧ Kp1 adr adr' ∧ Mod (Hi L) h h' := by
  have hrl : (rangeW 0 N).length = N := by rw [range_len]; omega
  refine for_inv (rangeW 0 N) (fun i env h' => env 0 = some (.ref (adr .y)) ∧ env 1 = some (planW p) ∧ env 3 = some (.int t) ∧ env 4 = some (.ref (adr (.m g))) ∧ env 6 = some (.int c) ∧ ∃ (y : ST) (v : Int) (adr' : Rl → Nat), env 5 = some (.int v) ∧ slotGo (pdOf p) G c t N x u = slotGo (pdOf p) G c t (N - i) y v ∧
      YR L p Gs h' adr' (Y.st g y) ∧ YOk p Gs (Y.st g y) (b + i) ∧ Kp1 adr adr' ∧ Mod (Hi L) h h')
    (fun fl env h' => fl = .nx ∧ env 0 = some (.ref (adr .y)) ∧ env 3 = some (.int t) ∧ env 4 = some (.ref (adr (.m g))) ∧ env 6 = some (.int c) ∧ env 5 = some (.int (slotGo (pdOf p) G c t N x u).2) ∧
      ∃ adr', YR L p Gs h' adr' (Y.st g (slotGo (pdOf p) G c t N x u).1) ∧ YOk p Gs (Y.st g (slotGo (pdOf p) G c t N x u).1) (b + N) ∧ Kp1 adr adr' ∧ Mod (Hi L) h h')
    ⟨v0, v1, v3, v4, v6, x, u, adr, v5, rfl, r, ok, .rfl, .rfl⟩ (fun _ _ _ _ => rfl) ?_ ?_
  · rintro env h' ⟨v0, v1, v3, v4, v6, y, v, adr', v5, es, ry, oy, ky, my⟩
    rw [hrl] at es oy
    rw [Nat.sub_self] at es
    have es : slotGo (pdOf p) G c t N x u = (y, v) := es
    rw [es]
    exact ⟨rfl, v0, v3, v4, v6, v5, adr', ry, oy, ky, my⟩
  · rintro i w env h' hw ⟨v0, v1, v3, v4, v6, y, v, adr', v5, es, ry, oy, ky, my⟩
    obtain ⟨rfl, lt⟩ := range_at hw
    have lt : i < N := by omega
    refine (slot_turn (n := n) ry oy (by omega) e0 hG v0 v1 v3 v4 v5 v6 ky.y ky.m).imp ?_
    rintro ⟨fl, env'⟩ h'' ⟨w0, w1, w3, w4, w6, z⟩
    have r1 : N - i = (N - (i + 1)) + 1 := by omega
    have r2 : slotGo (pdOf p) G c t (N - i) y v = if goesOn (pdOf p) y.s.M t v then slotGo (pdOf p) G c t (N - (i + 1)) (step1 (pdOf p) G y (c + v)).1 (v + (step1 (pdOf p) G y (c + v)).2) else (y, v) := by rw [r1]; rfl
    rcases z with ⟨rfl, z2, z3, z4, z5⟩ | ⟨rfl, z2, z3, adr2, z4, z5, z6⟩
    · simp only [aft_bk]
      rw [z2] at r2
      have es : slotGo (pdOf p) G c t N x u = (y, v) := es.trans r2
      rw [es]
      exact ⟨trivial, w0, w3, w4, w6, z3, adr', z4, oy.le (by omega), ky, my.trans z5⟩
    · simp only [aft_nx]
      rw [z2] at r2
      exact ⟨w0, w1, w3, w4, w6, _, _, adr2, z3, es.trans r2, z4, step_st oy e0 hG, ky.trans z5, my.trans z6⟩
end
end Nw

set_option Elab.async false
set_option linter.all false
set_option maxRecDepth 100000
set_option maxHeartbeats 2000000
/-! The laws' own system: a slot, whole. -/
namespace Nw
open PySem PySem.Spec PyProof.Rows L2
section
variable {n : Nat} {L : Nat} {p : PlanT} {P : PD} {Gs : List GD} {h h' : VH} {adr adr' : Rl → Nat} {Y : YSt} {g b : Nat} {G : GD} {s s' : LS}
theorem idx_nm (nd : p.names.Nodup) (hg : g < p.names.length) : (p.names.map W.str).findIdx? (fun y => eqF y (.str (p.nm g))) = some g := by
  rw [List.findIdx?_eq_some_iff_getElem]
  refine ⟨by simpa using hg, ?_, fun j hj => ?_⟩
  · simp only [List.getElem_map]
    show (_ == _) = true
    have : p.names[g] = p.nm g := by have := p.nm_of hg; rw [List.getElem?_eq_getElem hg] at this; exact Option.some.inj this
    rw [this]; simp
  · simp only [List.getElem_map]
    have hj' : j < p.names.length := by omega
    have e1 : p.names[j] = p.nm j := by have := p.nm_of hj'; rw [List.getElem?_eq_getElem hj'] at this; exact Option.some.inj this
    intro z
    have z : (p.names[j] == p.nm g) = true := z
    rw [e1] at z
    have z := eq_of_beq z
    have : p.names[j]? = p.names[g]? := by rw [p.nm_of hj', p.nm_of hg, z]
    have := (List.getElem?_inj hj' nd).mp this
    omega
def slotOf (p : PlanT) (k : Nat) : Nat × Int := p.slots[k % p.slots.length]?.getD (0, 0)
/-- an entry, as the laws' own system says it -/
def enW (e : En) : W := .tup [.int e.g, .int e.begin_, .int e.used, .tup e.deeds, .int e.at_, .tup (e.regs.map W.int), .str e.word]
theorem atSlot_ok (ok : YOk p Gs Y b) (e0 : Y.own[g]? = some s) (hG : Gs[g]? = some G) : YOk p Gs (Y.st g (atSlot (pdOf p) ⟨s, Y.sh, Y.ch⟩)) b := by
  have a := ok.st g s G e0 hG
  have sm := ok.sm
  refine ok.up (Nat.le_refl _) (Y' := Y.st g _) ⟨?_, sm.n0, sm.n1, fun l hl => ?_, ?_, sm.room, sm.ways, sm.rooms, sm.room1, sm.ch, by show _ = (List.set _ _ _).length; rw [List.length_set]; exact sm.gs⟩ rfl rfl (fun s1 G1 h1 h2 => ?_) ok.wd
  · show (flush (pdOf p) Y.sh).sets.length = _
    unfold flush
    simp only
    split
    · simp
    · exact sm.nset
  · have hl : l ∈ (flush (pdOf p) Y.sh).sets := hl
    unfold flush at hl
    simp only at hl
    split at hl
    · rw [List.eq_of_mem_replicate hl]; simp
    · exact sm.set l hl
  · show (flush (pdOf p) Y.sh).pairs.length ≤ _
    unfold flush
    simp only
    split
    · simp
    · exact sm.pairs
  · rw [hG] at h2; cases h2
    exact ⟨⟨a.sm.fr, a.sm.f0, a.sm.f1, a.sm.inn, a.sm.ok⟩, ⟨a.mw.regs, a.mw.isW, a.mw.memW, a.mw.given, Nat.zero_le _, a.mw.met, a.mw.at0⟩, a.an, by intro w hw; cases hw⟩
theorem c_slot (r : YR L p Gs h adr Y) (ok : YOk p Gs Y b) (pk : PlanOk p) (hb : b + (slotOf p Y.slot).2.toNat < 1000000) (e0 : Y.own[(slotOf p Y.slot).1]? = some s) (hG : Gs[(slotOf p Y.slot).1]? = some G) (sl0 : Y.slot < 1000000) :
    Run (prg.call (n + 4) f_law_slot [.ref (adr .y)] h) fun x h' => x = enW (entryOf G Y.clock (slotY (pdOf p) G Y.clock (slotOf p Y.slot).2 ⟨s, Y.sh, Y.ch⟩)) ∧
      ∃ adr', YR L p Gs h' adr' { (Y.st (slotOf p Y.slot).1 (slotY (pdOf p) G Y.clock (slotOf p Y.slot).2 ⟨s, Y.sh, Y.ch⟩).1) with clock := Y.clock + (slotOf p Y.slot).2, slot := Y.slot + 1 } ∧
        YOk p Gs { (Y.st (slotOf p Y.slot).1 (slotY (pdOf p) G Y.clock (slotOf p Y.slot).2 ⟨s, Y.sh, Y.ch⟩).1) with clock := Y.clock + (slotOf p Y.slot).2, slot := Y.slot + 1 } (b + (slotOf p Y.slot).2.toNat) ∧ Kp1 adr adr' ∧ Mod (Hi L) h h' := by
  have sl := List.length_pos_iff.mpr pk.sl0
  have sl1 := pk.sl1
  have hk : Y.slot % p.slots.length < p.slots.length := Nat.mod_lt _ sl
  have es : p.slots[Y.slot % p.slots.length]? = some (slotOf p Y.slot) := by unfold slotOf; rw [List.getElem?_eq_getElem hk]; rfl
  obtain ⟨s1, s2, s3⟩ := pk.sl _ (List.mem_of_getElem? es)
  have tk := pk.ticks
  have wpos : 0 ≤ worstT p := by unfold worstT mx; split <;> split <;> omega
  have ea : atW (p.slots.map (slotW p)) (((Y.slot % p.slots.length : Nat) : Nat) : Int) = some (.tup [.str (p.nm (slotOf p Y.slot).1), .int (slotOf p Y.slot).2]) := by rw [atW_nat, List.getElem?_map, es]; rfl
  have em : (Y.slot : Int) % (p.slots.length : Int) = ((Y.slot % p.slots.length : Nat) : Int) := by omega
  generalize Y.slot % p.slots.length = ks at *
  generalize slotOf p Y.slot = gt at *
  obtain ⟨gi, t⟩ := gt
  dsimp only at *
  refine run_q fun Q q => ?_
  have hy : hg h (adr .y) = some (.dct (yD p adr Y.clock Y.slot)) := r.at .y rfl
  have hn' : hg h (adr .names) = some (.lst (p.names.map W.str)) := r.at .names rfl
  have ho : hg h (adr .own) = some (.lst (refsW Y.own fun g => adr (.m g))) := r.at .own rfl
  have ei := idx_nm pk.nd s1
  have hgi : gi < Y.own.length := (List.getElem?_eq_some_iff.mp e0).1
  have eo : atW (refsW Y.own fun g => adr (.m g)) ((gi : Nat) : Int) = some (.ref (adr (.m gi))) := by rw [atW_nat, refsW_at hgi]
  have fa : (p.names.map W.str).all flatW = true := by simp
  rw [u_law_slot]
  refine run_cut 4 (fun env h' => env 0 = some (.ref (adr .y)) ∧ env 1 = some (planW p) ∧ env 3 = some (.int t) ∧ env 4 = some (.ref (adr (.m gi))) ∧
      ∃ adr', YR L p Gs h' adr' { Y with sh := ⟨if (pdOf p).flC then List.replicate (pdOf p).nset [] else Y.sh.sets, Y.sh.pairs⟩ } ∧ Kp1 adr adr' ∧ Mod (Hi L) h h') ?_ ?_
  · refine run_q fun Q1 q1 => ?_
    have n0 := pk.n0
    simp [b_law_slot, hy, sl, hn', ho, em, ea, ei, fa, eo]
    have st := pk.sets
    have ss : p.sets ≤ 64 := st.2.2
    refine run_ite (fun c => ?_) (fun c => ?_)
    · have rg := z_rg1 (h := h) (j := (p.sets : Int)) (by omega) (by omega)
      rw [rg]
      simp
      have hrl : (rangeW 0 (p.sets : Int)).length = p.sets := by rw [range_len]; omega
      refine run_bind (lc_news (h := h) (rangeW 0 (p.sets : Int)) (its := .ws (rangeW 0 (p.sets : Int))) rfl (fun _ => rfl) (by rw [hrl]; omega) (fun w h' => by simp [e_law_slot_1])) ?_
      rintro _ h2 ⟨rfl, len, new, m2⟩
      rw [hrl] at len new
      rw [hrl]
      obtain ⟨r3, k3, m3⟩ := r.newSets (N := p.sets) m2 (Nat.le_refl _) (by omega) new
      have h3y := (r.mno (m2.trans (Mod.new (o := O.lst ((List.range p.sets).map fun i => W.ref (h.length + i)))))).at .y rfl
      have le : p.sets ≤ 16777216 := by omega
      simp [le, h3y]
      have fl : (pdOf p).flC = true := decide_eq_true c
      have ey : yD p (mv adr .sets (nx h2 0)) Y.clock Y.slot = yD p (nsA adr h.length (nx h2 0)) Y.clock Y.slot := rfl
      rw [ey]
      exact q1 _ _ ⟨rfl, by simp, by simp, by simp, by simp, _, by simp only [fl, if_true]; exact r3, k3, m3⟩
    · have fl : (pdOf p).flC = false := decide_eq_false c
      simp
      exact q1 _ _ ⟨rfl, by simp, by simp, by simp, by simp, adr, by simp only [fl, Bool.false_eq_true, if_false]; exact r, .rfl, .rfl⟩
  · rintro env h1 ⟨v0, v1, v3, v4, adr1, r1, k1, m1⟩
    have em1 := k1.m (g := gi)
    have ey1 := k1.y
    refine run_cut 2 (fun env h' => env 0 = some (.ref (adr .y)) ∧ env 1 = some (planW p) ∧ env 3 = some (.int t) ∧ env 4 = some (.ref (adr (.m gi))) ∧ env 5 = some (.int 0) ∧ env 6 = some (.int Y.clock) ∧
      ∃ adr', YR L p Gs h' adr' (Y.st gi (atSlot (pdOf p) ⟨s, Y.sh, Y.ch⟩)) ∧ Kp1 adr adr' ∧ Mod (Hi L) h h') ?_ ?_
    · refine run_q fun Q1 q1 => ?_
      have h1y := r1.at .y rfl
      rw [ey1] at h1y
      have fin : ∀ {adr2 : Rl → Nat} {h2 : VH} {sh : SH}, YR L p Gs h2 adr2 { Y with sh := sh } → sh = flush (pdOf p) Y.sh → Kp1 adr adr2 → Mod (Hi L) h h2 → hg h2 (adr (.m gi)) = some (.dct (mDO adr2 gi G s)) ∧
        YR L p Gs (hs (hn h2 (.lst [])) (adr (.m gi)) (.dct (mDO (mv adr2 (.deeds gi) (nx h2 0)) gi G { s with M := { s.M with deeds := [] } }))) (mv adr2 (.deeds gi) (nx h2 0)) (Y.st gi (atSlot (pdOf p) ⟨s, Y.sh, Y.ch⟩)) ∧ Kp1 adr (mv adr2 (.deeds gi) (nx h2 0)) ∧ Mod (Hi L) h (hs (hn h2 (.lst [])) (adr (.m gi)) (.dct (mDO (mv adr2 (.deeds gi) (nx h2 0)) gi G { s with M := { s.M with deeds := [] } }))) := fun {adr2 h2 sh} r2 es k2 m2 => by
        subst es
        have f1 := r2.atM e0 hG
        obtain ⟨r3, m3⟩ := r2.fresh (x := .deeds gi) (u := .m gi) (o := .lst []) (Y' := Y.st gi (atSlot (pdOf p) ⟨s, Y.sh, Y.ch⟩)) (ou := .dct (mDO (mv adr2 (.deeds gi) (nx h2 0)) gi G { s with M := { s.M with deeds := [] } })) Mod.rfl (by simp) (by simp [objs, e0, hG]) (fun z => ob_deeds (Y := { Y with sh := flush (pdOf p) Y.sh }) e0 hG _ z)
        rw [k2.m] at f1 r3 m3
        exact ⟨f1, r3, k2.trans (Kp1.deeds' _ _), m2.trans m3⟩
      simp [b_law_slot, v0, v1, v3, v4, h1y]
      refine run_ite (fun c => ?_) (fun c => ?_)
      · have fl : (pdOf p).flL = true := decide_eq_true c
        obtain ⟨r2, m2⟩ := r1.fresh (x := .pairs) (u := .y) (o := .lst []) (Y' := { Y with sh := ⟨if (pdOf p).flC then List.replicate (pdOf p).nset [] else Y.sh.sets, []⟩ }) (ou := .dct (yD p (mv adr1 .pairs (nx h1 0)) Y.clock Y.slot)) Mod.rfl (by simp) rfl (fun z => ob_pairs (Y := { Y with sh := ⟨if (pdOf p).flC then List.replicate (pdOf p).nset [] else Y.sh.sets, Y.sh.pairs⟩ }) _ [] z)
        rw [ey1] at r2 m2
        obtain ⟨f1, r3, k3, m3⟩ := fin r2 (by unfold flush; simp [fl]) (k1.trans (Kp1.pairs _)) (m1.trans m2)
        generalize eh2 : hs (hn h1 (O.lst [])) (adr .y) (O.dct (yD p (mv adr1 .pairs (nx h1 0)) Y.clock Y.slot)) = h2 at *
        have ex : nx h1 1 = nx h2 0 := by rw [← eh2]; simp
        rw [ex]
        simp [f1]
        exact q1 _ _ ⟨rfl, by simp [v0], by simp [v1], by simp [v3], by simp [v4], by simp, by simp, _, r3, k3, m3⟩
      · have fl : (pdOf p).flL = false := decide_eq_false c
        obtain ⟨f1, r3, k3, m3⟩ := fin r1 (by unfold flush; simp [fl]) k1 m1
        simp [f1]
        exact q1 _ _ ⟨rfl, by simp [v0], by simp [v1], by simp [v3], by simp [v4], by simp, by simp, _, r3, k3, m3⟩
    · rintro env h2 ⟨v0, v1, v3, v4, v5, v6, adr2, r2, k2, m2⟩
      have ok2 := atSlot_ok ok e0 hG
      have em2 := k2.m (g := gi)
      have ey2 := k2.y
      obtain ⟨N, rfl⟩ : ∃ N : Nat, t = (N : Int) := ⟨t.toNat, by omega⟩
      have eN : ((N : Nat) : Int).toNat = N := rfl
      rw [eN] at hb
      have lp := slot_loop (n := n) (N := N) (t := (N : Int)) (u := 0) (c := Y.clock) (env := env) r2 ok2 hb e0 hG (by rw [v0, ey2]) v1 v3 (by rw [v4, em2]) v5 v6
      have eY : slotGo (pdOf p) G Y.clock (N : Int) N (atSlot (pdOf p) ⟨s, Y.sh, Y.ch⟩) 0 = slotY (pdOf p) G Y.clock (N : Int) ⟨s, Y.sh, Y.ch⟩ := rfl
      rw [eY, ey2, em2] at lp
      rw [eN] at q
      generalize slotY (pdOf p) G Y.clock (N : Int) ⟨s, Y.sh, Y.ch⟩ = res at *
      obtain ⟨x, u⟩ := res
      have rg := z_rg1 (h := h2) (j := ((N : Nat) : Int)) (by omega) (by omega)
      simp [b_law_slot, v0, v1, v3, v4, v5, v6, rg]
      refine run_bind lp ?_
      rintro ⟨fl, env'⟩ h3 ⟨rfl, w0, w3, w4, w6, w5, adr3, r3, ok3, k3, m3⟩
      have em3 := k3.m (g := gi)
      have ey3 := k3.y
      dsimp only at w0 w3 w4 w5 w6 r3 ok3
      have h3y := r3.at .y rfl
      rw [ey3, ey2] at h3y
      have eZ : Y.slot + 1 = Y.slot + 1 := rfl
      obtain ⟨r4, m4⟩ := r3.set (x := .y) (o := .dct (yD p adr3 ((Y.st gi x).clock + (N : Int)) (Y.st gi x).slot)) (Y' := { (Y.st gi x) with clock := (Y.st gi x).clock + (N : Int), slot := (Y.st gi x).slot }) rfl (fun z => ob_y _ _ z)
      obtain ⟨r5, m5⟩ := r4.set (x := .y) (o := .dct (yD p adr3 ((Y.st gi x).clock + (N : Int)) ((Y.st gi x).slot + 1))) (Y' := { (Y.st gi x) with clock := (Y.st gi x).clock + (N : Int), slot := (Y.st gi x).slot + 1 }) rfl (fun z => ob_y (Y := { (Y.st gi x) with clock := (Y.st gi x).clock + (N : Int), slot := (Y.st gi x).slot }) _ _ z)
      have e5 : ({ (Y.st gi x) with clock := (Y.st gi x).clock + (N : Int), slot := (Y.st gi x).slot + 1 } : YSt).own[gi]? = some x.s := st_at e0 x
      have h5m := r5.atM e5 hG
      have h5d := r5.at (.deeds gi) (o := .lst x.s.M.deeds) (by simp only [objs, e5]; rfl)
      have h5r := r5.at (.regs gi) (o := intsO x.s.M.regs) (by simp only [objs, e5]; rfl)
      rw [em3, em2] at h5m
      rw [ey3, ey2] at h5m h5d h5r r4 r5 m4 m5
      have a5 := ok3.st gi x.s G (st_at e0 x) hG
      have dl : x.s.M.deeds.length ≤ 16777216 := by have := a5.mw.deeds; omega
      have rl := a5.mw.regs
      simp [w0, w3, h3y]
      generalize hs (hs h3 (adr .y) (O.dct (yD p adr3 ((Y.st gi x).clock + (N : Int)) (Y.st gi x).slot))) (adr .y) (O.dct (yD p adr3 ((Y.st gi x).clock + (N : Int)) ((Y.st gi x).slot + 1))) = h5 at *
      simp [w4, w5, w6, h5m, h5d, h5r, intsO, dl, rl]
      refine q _ _ ⟨rfl, adr3, r5, ?_, k2.trans k3, ((m2.trans m3).trans m4).trans m5⟩
      exact ⟨⟨ok3.sm.nset, ok3.sm.n0, ok3.sm.n1, ok3.sm.set, ok3.sm.pairs, ok3.sm.room, ok3.sm.ways, ok3.sm.rooms, ok3.sm.room1, ok3.sm.ch, ok3.sm.gs⟩, ok3.gd, ok3.st, ok3.wd⟩
end
end Nw

set_option Elab.async false
set_option linter.all false
set_option maxRecDepth 100000
set_option maxHeartbeats 2000000
/-! The laws' own system: laid. -/
namespace Nw
open PySem PySem.Spec PyProof.Rows L2
abbrev Gst := List Ins × List Int
def gstsW (gs : List Gst) : W := .tup (gs.map fun x => guestW x.1 x.2)
def frmOf (p : PlanT) (g : Nat) : List Nat := (List.range p.chans.length).filter fun k => decide ((p.chans[k]?.getD (0, 0, 0)).1 = g)
def toOf (p : PlanT) (g : Nat) : List Nat := (List.range p.chans.length).filter fun k => decide ((p.chans[k]?.getD (0, 0, 0)).2.1 = g)
def gdOf (p : PlanT) (g : Nat) (x : Gst) : GD := ⟨(g : Int), x.1, (gOf x.1 []).base, (framesT p)[g]?.getD [], frmOf p g, toOf p g⟩
def gdsOf (p : PlanT) (gs : List Gst) : List GD := gs.mapIdx (gdOf p)
def lsOf (x : Gst) : LS := ⟨M0 x.1 x.2, [], [], false⟩
def Y0 (p : PlanT) (gs : List Gst) : YSt := ⟨0, 0, ⟨List.replicate p.sets [], []⟩, List.replicate p.chans.length [], gs.map lsOf⟩
/-- where a guest's parts lie -/
structure Spot where
  m : Nat
  mem : Nat
  regs : Nat
  deeds : Nat
  met : Nat
  inn : Nat
  frm : Nat
  to : Nat
def plcA (adr : Rl → Nat) (k : Nat) (c : Spot) : Rl → Nat
  | .m g => if g = k then c.m else adr (.m g)
  | .mem g => if g = k then c.mem else adr (.mem g)
  | .regs g => if g = k then c.regs else adr (.regs g)
  | .deeds g => if g = k then c.deeds else adr (.deeds g)
  | .met g => if g = k then c.met else adr (.met g)
  | .inn g => if g = k then c.inn else adr (.inn g)
  | .frm g => if g = k then c.frm else adr (.frm g)
  | .to g => if g = k then c.to else adr (.to g)
  | x => adr x
def Spot.all (c : Spot) : List Nat := [c.m, c.mem, c.regs, c.deeds, c.met, c.inn, c.frm, c.to]
def guestR (k : Nat) : List Rl := [.m k, .mem k, .regs k, .deeds k, .met k, .inn k, .frm k, .to k]
section
variable {n : Nat} {L : Nat} {p : PlanT} {Gs : List GD} {h h' : VH} {adr adr' : Rl → Nat} {Y : YSt} {g b k : Nat} {G : GD} {s s' : LS}
theorem append_at {α : Type} {l : List α} {a : α} (i : Nat) : (l ++ [a])[i]? = if i = l.length then some a else l[i]? := by
  by_cases c : i < l.length
  · rw [List.getElem?_append_left c, if_neg (by omega)]
  · by_cases c2 : i = l.length
    · subst c2; simp
    · rw [if_neg c2, List.getElem?_eq_none (by simp; omega), List.getElem?_eq_none (by omega)]
/-- one guest more -/
theorem YR.more {c : Spot} (r : YR L p Gs h adr Y) (e1 : Gs.length = k) (e2 : Y.own.length = k) (md : Mod (· = adr .own) h h') (ho : hg h' (adr .own) = some (.lst (refsW Y.own (fun g => adr (.m g)) ++ [.ref c.m]))) (fr : ∀ a ∈ c.all, h.length ≤ a) (nd : c.all.Nodup)
    (hm : hg h' c.m = some (.dct (mDO (plcA adr k c) k G s))) (hmem : hg h' c.mem = some (intsO s.M.mem)) (hregs : hg h' c.regs = some (intsO s.M.regs)) (hdeeds : hg h' c.deeds = some (.lst s.M.deeds)) (hmet : hg h' c.met = some (.lst s.M.met)) (hinn : hg h' c.inn = some (.lst (s.inn.map innW)))
    (hfrm : hg h' c.frm = some (intsO (G.frm.map fun k => ((k : Nat) : Int)))) (hto : hg h' c.to = some (intsO (G.to.map fun k => ((k : Nat) : Int)))) :
    YR L p (Gs ++ [G]) h' (plcA adr k c) { Y with own := Y.own ++ [s] } := by
  have ly : L ≤ h.length := by have := r.low .y rfl; have := r.v.lt (x := .y) rfl; omega
  have nwA : ∀ x ∈ guestR k, plcA adr k c x ∈ c.all := fun x hx => by
    simp only [guestR, List.mem_cons, List.mem_nil_iff, or_false] at hx
    rcases hx with rfl | rfl | rfl | rfl | rfl | rfl | rfl | rfl <;> simp [plcA, Spot.all]
  have inj : ∀ x ∈ guestR k, ∀ y ∈ guestR k, plcA adr k c x = plcA adr k c y → x = y := fun x hx y hy e => by
    simp only [Spot.all, List.nodup_cons, List.mem_cons, List.mem_nil_iff, or_false, not_or] at nd
    obtain ⟨⟨a1, a2, a3, a4, a5, a6, a7⟩, ⟨b2, b3, b4, b5, b6, b7⟩, ⟨c3, c4, c5, c6, c7⟩, ⟨d4, d5, d6, d7⟩, ⟨e5, e6, e7⟩, ⟨f6, f7⟩, g7, _⟩ := nd
    simp only [guestR, List.mem_cons, List.mem_nil_iff, or_false] at hx hy
    rcases hx with rfl | rfl | rfl | rfl | rfl | rfl | rfl | rfl <;> rcases hy with rfl | rfl | rfl | rfl | rfl | rfl | rfl | rfl <;> first | rfl | (simp only [plcA, if_true] at e; exfalso; first | exact absurd e (by assumption) | exact absurd e.symm (by assumption))
  have cls : ∀ x, (objs p (Gs ++ [G]) (plcA adr k c) { Y with own := Y.own ++ [s] } x).isSome = true → x ∈ guestR k ∨ (plcA adr k c x = adr x ∧ (objs p Gs adr Y x).isSome = true ∧ (x ≠ .own → objs p (Gs ++ [G]) (plcA adr k c) { Y with own := Y.own ++ [s] } x = objs p Gs adr Y x)) := fun x hx => by
    have own_at : ∀ i, i ≠ k → (Y.own ++ [s])[i]? = Y.own[i]? := fun i hi => by rw [append_at, if_neg (by omega)]
    have gs_at : ∀ i, i ≠ k → (Gs ++ [G])[i]? = Gs[i]? := fun i hi => by rw [append_at, if_neg (by omega)]
    cases x with
    | own => right; exact ⟨rfl, rfl, fun c => absurd rfl c⟩
    | m i =>
      by_cases ci : i = k
      · left; subst ci; simp [guestR]
      · right
        have e : objs p (Gs ++ [G]) (plcA adr k c) { Y with own := Y.own ++ [s] } (.m i) = objs p Gs adr Y (.m i) := by
          simp only [objs, own_at i ci, gs_at i ci]
          cases Y.own[i]? with
          | none => rfl
          | some s1 =>
            cases Gs[i]? with
            | none => rfl
            | some G1 => simp [mDO, mgO, extE, extL, plcA, ci]
        rw [e] at hx
        exact ⟨if_neg ci, hx, fun _ => e⟩
    | mem i | regs i | deeds i | met i | inn i =>
      by_cases ci : i = k
      · left; subst ci; simp [guestR]
      · right
        simp only [objs, own_at i ci] at hx ⊢
        exact ⟨if_neg ci, hx, fun _ => trivial⟩
    | frm i | to i =>
      by_cases ci : i = k
      · left; subst ci; simp [guestR]
      · right
        simp only [objs, gs_at i ci] at hx ⊢
        exact ⟨if_neg ci, hx, fun _ => trivial⟩
    | _ => right; exact ⟨rfl, hx, fun _ => rfl⟩
  have self : Y.own.length = k := e2
  have own_k : (Y.own ++ [s])[k]? = some s := by rw [append_at, if_pos e2.symm]
  have gs_k : (Gs ++ [G])[k]? = some G := by rw [append_at, if_pos e1.symm]
  have new : ∀ x ∈ guestR k, ∀ o, objs p (Gs ++ [G]) (plcA adr k c) { Y with own := Y.own ++ [s] } x = some o → hg h' (plcA adr k c x) = some o := fun x hx o ho => by
    simp only [guestR, List.mem_cons, List.mem_nil_iff, or_false] at hx
    rcases hx with rfl | rfl | rfl | rfl | rfl | rfl | rfl | rfl <;> simp only [objs, own_k, gs_k, Option.map_some, Option.some.injEq] at ho <;> subst ho <;> simp only [plcA, if_true] <;> assumption
  refine ⟨⟨fun z o hz => ?_, fun z t hz ht e => ?_⟩, fun z hz => ?_⟩
  · rcases cls z (by rw [hz]; rfl) with hr | ⟨a1, a2, a3⟩
    · exact new z hr o hz
    · rw [a1]
      by_cases co : z = .own
      · subst co
        rw [ho, ← hz]
        simp only [objs]
        congr 2
        unfold refsW
        rw [List.length_append, List.length_singleton, List.range_succ, List.map_append]
        congr 1
        · apply List.map_congr_left
          intro i hi
          have := List.mem_range.mp hi
          show W.ref (adr (.m i)) = W.ref (if i = k then c.m else adr (.m i))
          rw [if_neg (by omega)]
        · show [W.ref c.m] = [W.ref (if Y.own.length = k then c.m else _)]
          rw [if_pos e2]
      · rw [a3 co] at hz
        exact md.get (r.v.get z o hz) (fun q => co (r.v.inj _ _ a2 rfl q))
  · rcases cls z hz with hr | ⟨a1, a2, _⟩ <;> rcases cls t ht with ht' | ⟨b1, b2, _⟩
    · exact inj z hr t ht' e
    · have := fr _ (nwA z hr)
      have := r.v.lt b2
      rw [e, b1] at *
      omega
    · have := fr _ (nwA t ht')
      have := r.v.lt a2
      rw [← e, a1] at *
      omega
    · rw [a1, b1] at e
      exact r.v.inj _ _ a2 b2 e
  · rcases cls z hz with hr | ⟨a1, a2, _⟩
    · exact Nat.le_trans ly (fr _ (nwA z hr))
    · rw [a1]; exact r.low z a2
theorem five_writes {h1 : VH} {m : Nat} {o1 o2 o3 o4 om : O} (hm : hg h1 m = some om) : hg (hs (hs (hn (hs (hs h1 m o1) m o2) (.lst [])) m o3) m o4) m = some o4 ∧ hg (hs (hs (hn (hs (hs h1 m o1) m o2) (.lst [])) m o3) m o4) (nx h1 0) = some (.lst []) ∧
    (∀ q o, q ≠ m → hg h1 q = some o → hg (hs (hs (hn (hs (hs h1 m o1) m o2) (.lst [])) m o3) m o4) q = some o) ∧ Mod (· = m) h1 (hs (hs (hn (hs (hs h1 m o1) m o2) (.lst [])) m o3) m o4) := by
  have lm := lt_hg (by rw [hm]; rfl : (hg h1 m).isSome = true)
  have e1 : nx h1 0 = nx (hs (hs h1 m o1) m o2) 0 := by simp
  have s1 : (hg (hs (hs h1 m o1) m o2) m).isSome = true := by rw [hg_hs (by rw [hg_hs (by rw [hm]; rfl)]; rfl)]; rfl
  have s2 : (hg (hn (hs (hs h1 m o1) m o2) (.lst [])) m).isSome = true := by rw [hg_hn s1]; exact s1
  refine ⟨?_, ?_, fun q o hq ho => ?_, ?_⟩
  · rw [hg_hs (by rw [hg_hs s2]; rfl)]
  · rw [hg_ne (by unfold nx; omega), hg_ne (by unfold nx; omega), e1, hg_new']
  · rw [hg_ne (fun z => hq z.symm), hg_ne (fun z => hq z.symm), hg_hn (by rw [hg_ne (fun z => hq z.symm), hg_ne (fun z => hq z.symm), ho]; rfl), hg_ne (fun z => hq z.symm), hg_ne (fun z => hq z.symm), ho]
  · have sm : ∀ {a : VH} {o : O}, Mod (· = m) a (hs a m o) := Mod.set (s := (· = m)) rfl
    exact ((sm.trans sm).trans Mod.new).trans (sm.trans sm)
theorem two_writes {h2 : VH} {m : Nat} {o d om : O} (hm : hg h2 m = some om) : hg (hs (hn h2 o) m d) m = some d ∧ hg (hs (hn h2 o) m d) (nx h2 0) = some o ∧ (∀ q o', q ≠ m → hg h2 q = some o' → hg (hs (hn h2 o) m d) q = some o') ∧ Mod (· = m) h2 (hs (hn h2 o) m d) ∧ (hs (hn h2 o) m d).length = h2.length + 1 := by
  have lm := lt_hg (by rw [hm]; rfl : (hg h2 m).isSome = true)
  refine ⟨?_, ?_, fun q o' hq ho => ?_, ?_, by rw [hs_len, hn_len]⟩
  · rw [hg_hs (by rw [hg_hn (by rw [hm]; rfl), hm]; rfl)]
  · rw [hg_ne (by unfold nx; omega), hg_new']
  · rw [hg_ne (fun z => hq z.symm), hg_hn (by rw [ho]; rfl), ho]
  · exact Mod.new.trans (Mod.set (s := (· = m)) rfl)
theorem sys_turn {env : Env} {x : Gst} {fs : List Int} (r : YR L p Gs h adr Y) (e1 : Gs.length = k) (e2 : Y.own.length = k) (pk : PlanOk p) (ok : GOk x.1 x.2) {gs : List Gst} (hx : gs[k]? = some x) (hf : (framesT p)[k]? = some fs) (hk : k < p.names.length) (kl : k < 8)
    (v0 : env 0 = some (planW p)) (v1 : env 1 = some (gstsW gs)) (v2 : env 2 = some (.ref (adr .y))) (v3 : env 3 = some (.tup ((framesT p).map fun fs => .tup (fs.map W.int)))) :
    Run (forF (prg.cfg (n + 3)) (.nm 4) l_law_system_1 (.int (k : Nat)) env h) fun q h' => q.1 = .nx ∧ q.2 0 = some (planW p) ∧ q.2 1 = some (gstsW gs) ∧ q.2 2 = some (.ref (adr .y)) ∧ q.2 3 = some (.tup ((framesT p).map fun fs => .tup (fs.map W.int))) ∧
      ∃ adr', adr' .y = adr .y ∧ YR L p (Gs ++ [gdOf p k x]) h' adr' { Y with own := Y.own ++ [lsOf x] } ∧ Mod (Hi L) h h' := by
  refine run_q fun Q q => ?_
  have hy : hg h (adr .y) = some (.dct (yD p adr Y.clock Y.slot)) := r.at .y rfl
  have ho : hg h (adr .own) = some (.lst (refsW Y.own fun g => adr (.m g))) := r.at .own rfl
  have hn' : hg h (adr .names) = some (.lst (p.names.map W.str)) := r.at .names rfl
  have ea : atW (gs.map fun x => guestW x.1 x.2) ((k : Nat) : Int) = some (guestW x.1 x.2) := by rw [atW_nat, List.getElem?_map, hx]; rfl
  have ef : atW ((framesT p).map fun fs => W.tup (fs.map W.int)) ((k : Nat) : Int) = some (.tup (fs.map W.int)) := by rw [atW_nat, List.getElem?_map, hf]; rfl
  have en : atW (p.names.map W.str) ((k : Nat) : Int) = some (.str (p.nm k)) := by rw [atW_nat, List.getElem?_map, p.nm_of hk]; rfl
  have st : ∀ (o : List (Key × W)), True := fun _ => trivial
  rw [x_forF]
  have chl := pk.chl
  have fromC : ∀ (env : Env) (h2 : VH), env 0 = some (planW p) → env 2 = some (.ref (adr .y)) → env 4 = some (.int (k : Nat)) → hg h2 (adr .y) = some (.dct (yD p adr Y.clock Y.slot)) → hg h2 (adr .names) = some (.lst (p.names.map W.str)) →
      Run (itK (.ws (rangeW 0 (p.chans.length : Int))) (xlcF (prg.cfg (n + 3)) e_law_system_4 [6] (.nm 6) t_law_system_4 env) h2) fun acc h' => acc = (frmOf p k).map (fun j => W.int ((j : Nat) : Int)) ∧ Mod no h2 h' := fun env h2 v0 v2 v4 hy2 hn2 => by
    refine (lc_filx (List.range p.chans.length) (fun j => W.int ((j : Nat) : Int)) (fun j => if (p.chans[j]?.getD (0, 0, 0)).1 = k then some (.int ((j : Nat) : Int)) else none) (by rw [range_nat]; rfl) (by simp; omega) (fun j h3 hj m3 => ?_)).imp ?_
    · have hj := List.mem_range.mp hj
      have ec : p.chans[j]? = some p.chans[j] := List.getElem?_eq_getElem hj
      have ech : atW (p.chans.map (chanW p)) ((j : Nat) : Int) = some (chanW p p.chans[j]) := by rw [atW_nat, List.getElem?_map, ec]; rfl
      have hc := pk.ch _ (List.getElem_mem hj)
      have hy3 := m3.get hy2 (fun z => z)
      have hn3 := m3.get hn2 (fun z => z)
      have ei : (p.nm p.chans[j].1 = p.nm k) ↔ p.chans[j].1 = k := ⟨fun z => PlanT.nm_inj pk.nd hc.1 hk z, fun z => by rw [z]⟩
      simp [e_law_system_4, t_law_system_4, v0, v2, v4, ech, chanW, hy3, hn3, en, ec, ei]
      refine run_ite (fun c => ?_) (fun c => ?_)
      · simp [c]; exact Mod.rfl
      · simp [c]; exact Mod.rfl
    · rintro acc h' ⟨rfl, m⟩
      refine ⟨?_, m⟩
      exact filter_mapP (fun j : Nat => W.int ((j : Nat) : Int)) (fun j => (p.chans[j]?.getD (0, 0, 0)).1 = k) _
  have toC : ∀ (env : Env) (h2 : VH), env 0 = some (planW p) → env 2 = some (.ref (adr .y)) → env 4 = some (.int (k : Nat)) → hg h2 (adr .y) = some (.dct (yD p adr Y.clock Y.slot)) → hg h2 (adr .names) = some (.lst (p.names.map W.str)) →
      Run (itK (.ws (rangeW 0 (p.chans.length : Int))) (xlcF (prg.cfg (n + 3)) e_law_system_5 [6] (.nm 6) t_law_system_5 env) h2) fun acc h' => acc = (toOf p k).map (fun j => W.int ((j : Nat) : Int)) ∧ Mod no h2 h' := fun env h2 v0 v2 v4 hy2 hn2 => by
    refine (lc_filx (List.range p.chans.length) (fun j => W.int ((j : Nat) : Int)) (fun j => if (p.chans[j]?.getD (0, 0, 0)).2.1 = k then some (.int ((j : Nat) : Int)) else none) (by rw [range_nat]; rfl) (by simp; omega) (fun j h3 hj m3 => ?_)).imp ?_
    · have hj := List.mem_range.mp hj
      have ec : p.chans[j]? = some p.chans[j] := List.getElem?_eq_getElem hj
      have ech : atW (p.chans.map (chanW p)) ((j : Nat) : Int) = some (chanW p p.chans[j]) := by rw [atW_nat, List.getElem?_map, ec]; rfl
      have hc := pk.ch _ (List.getElem_mem hj)
      have hy3 := m3.get hy2 (fun z => z)
      have hn3 := m3.get hn2 (fun z => z)
      have ei : (p.nm p.chans[j].2.1 = p.nm k) ↔ p.chans[j].2.1 = k := ⟨fun z => PlanT.nm_inj pk.nd hc.2.1 hk z, fun z => by rw [z]⟩
      simp [e_law_system_5, t_law_system_5, v0, v2, v4, ech, chanW, hy3, hn3, en, ec, ei]
      refine run_ite (fun c => ?_) (fun c => ?_)
      · simp [c]; exact Mod.rfl
      · simp [c]; exact Mod.rfl
    · rintro acc h' ⟨rfl, m⟩
      refine ⟨?_, m⟩
      exact filter_mapP (fun j : Nat => W.int ((j : Nat) : Int)) (fun j => (p.chans[j]?.getD (0, 0, 0)).2.1 = k) _
  have ml : ∀ (x : Rl), (objs p Gs adr Y x).isSome = true → L ≤ adr x := r.low
  refine run_cut' 5 (fun env h' => env 0 = some (planW p) ∧ env 1 = some (gstsW gs) ∧ env 2 = some (.ref (adr .y)) ∧ env 3 = some (.tup ((framesT p).map fun fs => .tup (fs.map W.int))) ∧ env 4 = some (.int (k : Nat)) ∧
      ∃ (m rm rr rd rt ri : Nat), env 5 = some (.ref m) ∧ hg h' m = some (.dct (mD (gOf x.1 []) rm rr rd rt (M0 x.1 x.2) ++ [(.inr (S [103]), .int (k : Nat)), (.inr (S [102, 114, 97, 109, 101, 115]), .tup (fs.map W.int)), (.inr (S [105, 110]), .ref ri), (.inr (S [99, 97, 109, 101]), .bl false)])) ∧
      hg h' rm = some (.lst ((M0 x.1 x.2).mem.map W.int)) ∧ hg h' rr = some (.lst ((M0 x.1 x.2).regs.map W.int)) ∧ hg h' rd = some (.lst []) ∧ hg h' rt = some (.lst []) ∧ hg h' ri = some (.lst []) ∧ (rm ≠ rr ∧ rm ≠ rd ∧ rm ≠ rt ∧ rr ≠ rd ∧ rr ≠ rt ∧ rd ≠ rt) ∧ FR h m rm rr rd rt ∧
      h.length ≤ ri ∧ ri ≠ rm ∧ ri ≠ rr ∧ ri ≠ rd ∧ ri ≠ rt ∧ ri ≠ m ∧ Mod no h h') ?_ ?_
  · refine run_q fun Q1 q1 => ?_
    simp [l_law_system_1, v0, v1, v2, v3, ea, gstsW]
    refine run_bind (c_machine (n := n) (h := h) (ans := []) ok) ?_
    rintro _ h1 ⟨m, rm, rr, rd, rt, rfl, mr, fr, m1⟩
    have h1m := mr.hm
    have h1a := mr.hmm
    have h1b := mr.hrr
    have h1c := mr.hrd
    have h1d := mr.hrt
    have nea : m ≠ rm := ne_of_get h1m h1a (by simp)
    have neb : m ≠ rr := ne_of_get h1m h1b (by simp)
    have nec : m ≠ rd := ne_of_get h1m h1c (by simp)
    have ned : m ≠ rt := ne_of_get h1m h1d (by simp)
    have la := lt_hg (by rw [h1a]; rfl)
    have lb := lt_hg (by rw [h1b]; rfl)
    have lc := lt_hg (by rw [h1c]; rfl)
    have ld := lt_hg (by rw [h1d]; rfl)
    have lm := lt_hg (by rw [h1m]; rfl)
    simp only [mD, gOf] at h1m
    simp [h1m, v3, ef]
    obtain ⟨f1, f2, f3, f4⟩ := five_writes (o1 := _) (o2 := _) (o3 := _) (o4 := _) h1m
    refine q1 _ _ ⟨rfl, by simp [v0], by simp [v1, gstsW], by simp [v2], by simp [v3], by simp, m, rm, rr, rd, rt, nx h1 0, by simp, f1, f3 _ _ nea.symm h1a, f3 _ _ neb.symm h1b, f3 _ _ nec.symm h1c, f3 _ _ ned.symm h1d, f2, mr.ne, fr, ?_, ?_, ?_, ?_, ?_, ?_, ?_⟩
    · have := m1.1; unfold nx; omega
    · unfold nx; omega
    · unfold nx; omega
    · unfold nx; omega
    · unfold nx; omega
    · unfold nx; omega
    · refine Mod.seq m1 f4 (fun q _ z => z) (fun q hq z => ?_)
      have := fr.1
      have z : q = m := z
      omega
  · rintro env h1 ⟨v0, v1, v2, v3, v4, m, rm, rr, rd, rt, ri, v5, hm, ha, hb, hc, hd, hi, ne, fr, fri, n1, n2, n3, n4, n5, m1⟩
    have hy1 := m1.get hy (fun z => z)
    have hn1 := m1.get hn' (fun z => z)
    have ho1 := m1.get ho (fun z => z)
    have lty := lt_hg (by rw [hy]; rfl : (hg h (adr .y)).isSome = true)
    have ltn := lt_hg (by rw [hn']; rfl : (hg h (adr .names)).isSome = true)
    have lto := lt_hg (by rw [ho]; rfl : (hg h (adr .own)).isSome = true)
    have fr1 := fr.1
    have nmy : ¬ adr .y = m := by omega
    have nmn : ¬ adr .names = m := by omega
    have nmo : ¬ adr .own = m := by omega
    have smM : ∀ {a : VH} {o : O}, Mod (· = m) a (hs a m o) := Mod.set (s := (· = m)) rfl
    simp only [mD, gOf] at hm
    have rg := fun h2 : VH => z_rg1 (h := h2) (j := (p.chans.length : Int)) (by omega) (by omega)
    simp [l_law_system_1, v0, v1, v2, v3, v4, v5, rg]
    refine run_bind (fromC env h1 v0 v2 v4 hy1 hn1) ?_
    rintro _ h2 ⟨rfl, m2⟩
    have hm2 := m2.get hm (fun z => z)
    have fl : (frmOf p k).length ≤ 16777216 := Nat.le_trans (List.length_filter_le _ _) (by simp; omega)
    simp [fl, v5, hm2]
    generalize eD : O.dct _ = D5
    obtain ⟨f1, f2, f3, f4, f5⟩ := two_writes (o := .lst ((frmOf p k).map fun j => W.int ((j : Nat) : Int))) (d := D5) hm2
    have hy2 := f3 _ _ nmy (m2.get hy1 (fun z => z))
    have hn2 := f3 _ _ nmn (m2.get hn1 (fun z => z))
    have ho2 := f3 _ _ nmo (m2.get ho1 (fun z => z))
    have hi2 := f3 _ _ n5 (m2.get hi (fun z => z))
    have mne := fun {q : Nat} {o : O} (e : hg h1 q = some o) (n : ∀ d, o ≠ .dct d) => (fun z : q = m => by rw [z, hm] at e; exact n _ (Option.some.inj e).symm : q ≠ m)
    have ha2 := f3 _ _ (mne ha (by simp)) (m2.get ha (fun z => z))
    have hb2 := f3 _ _ (mne hb (by simp)) (m2.get hb (fun z => z))
    have hc2 := f3 _ _ (mne hc (by simp)) (m2.get hc (fun z => z))
    have hd2 := f3 _ _ (mne hd (by simp)) (m2.get hd (fun z => z))
    have l2 : h1.length ≤ h2.length := m2.1
    have lm2 := lt_hg (by rw [hm2]; rfl : (hg h2 m).isSome = true)
    have la2 := lt_hg (by rw [m2.get ha (fun z => z)]; rfl : (hg h2 rm).isSome = true)
    have lb2 := lt_hg (by rw [m2.get hb (fun z => z)]; rfl : (hg h2 rr).isSome = true)
    have lc2 := lt_hg (by rw [m2.get hc (fun z => z)]; rfl : (hg h2 rd).isSome = true)
    have ld2 := lt_hg (by rw [m2.get hd (fun z => z)]; rfl : (hg h2 rt).isSome = true)
    have li2 := lt_hg (by rw [m2.get hi (fun z => z)]; rfl : (hg h2 ri).isSome = true)
    generalize eH : hs (hn h2 (O.lst ((frmOf p k).map fun j => W.int ((j : Nat) : Int)))) m D5 = H at *
    simp [v0, rg]
    refine run_bind (toC env H v0 v2 v4 hy2 hn2) ?_
    rintro _ h3 ⟨rfl, m3⟩
    have tl : (toOf p k).length ≤ 16777216 := Nat.le_trans (List.length_filter_le _ _) (by simp; omega)
    subst eD
    have hm3 := m3.get f1 (fun z => z)
    simp [tl, v5, hm3, v2]
    generalize eD : O.dct _ = D6
    obtain ⟨w1, w2, w3, w4, w5⟩ := two_writes (o := .lst ((toOf p k).map fun j => W.int ((j : Nat) : Int))) (d := D6) hm3
    have hy3 := w3 _ _ nmy (m3.get hy2 (fun z => z))
    have ho3 := w3 _ _ nmo (m3.get ho2 (fun z => z))
    have hi3 := w3 _ _ n5 (m3.get hi2 (fun z => z))
    have ha3 := w3 _ _ (mne ha (by simp)) (m3.get ha2 (fun z => z))
    have hb3 := w3 _ _ (mne hb (by simp)) (m3.get hb2 (fun z => z))
    have hc3 := w3 _ _ (mne hc (by simp)) (m3.get hc2 (fun z => z))
    have hd3 := w3 _ _ (mne hd (by simp)) (m3.get hd2 (fun z => z))
    have hf3 := w3 _ _ (by unfold nx; omega) (m3.get f2 (fun z => z))
    have l3 : H.length ≤ h3.length := m3.1
    generalize hs (hn h3 (O.lst ((toOf p k).map fun j => W.int ((j : Nat) : Int)))) m D6 = K at *
    have lo3 : (refsW Y.own fun g => adr (.m g)).length < 16777216 := by rw [refsW_len, e2]; omega
    simp [v2, hy3, ho3, lo3, v5]
    have mK : Mod (· = m) h1 K := (((m2.mono fun _ _ z => z.elim).trans f4).trans (m3.mono fun _ _ z => z.elim)).trans w4
    have mhK : Mod no h K := Mod.seq m1 mK (fun _ _ z => z) (fun q hq z => by have z : q = m := z; omega)
    have rK := r.mno mhK
    have mO : ∀ {q o}, q ≠ adr .own → hg K q = some o → hg (hs K (adr .own) (.lst (refsW Y.own (fun g => adr (.m g)) ++ [.ref m]))) q = some o := fun {q o} hq e => by rw [hg_ne (fun z => hq z.symm)]; exact e
    obtain ⟨fr0, fr2, fr3, fr4, fr5⟩ := fr
    obtain ⟨ne1, ne2, ne3, ne4, ne5, ne6⟩ := ne
    have hl1 : h.length ≤ h1.length := m1.1
    have mo := YR.more (G := gdOf p k x) (s := lsOf x) (c := ⟨m, rm, rr, rd, rt, ri, nx h2 0, nx h3 0⟩) r e1 e2 (h' := hs K (adr .own) (.lst (refsW Y.own (fun g => adr (.m g)) ++ [.ref m]))) ?_ ?_ ?_ ?_ ?_ ?_ ?_ ?_ ?_ ?_ ?_ ?_
    · refine q _ _ ⟨rfl, by simp [v0], by simp [v1], by simp [v2], by simp [v3], plcA adr k ⟨m, rm, rr, rd, rt, ri, nx h2 0, nx h3 0⟩, rfl, mo, ?_⟩
      exact (mhK.of_no).trans (Mod.set (r.low .own rfl))
    · exact (mhK.of_no).trans (Mod.set rfl)
    · rw [hg_hs (by rw [ho3]; rfl)]
    · intro a ha
      simp only [Spot.all, List.mem_cons, List.mem_nil_iff, or_false] at ha
      rcases ha with rfl | rfl | rfl | rfl | rfl | rfl | rfl | rfl
      all_goals first | assumption | (unfold nx; omega)
    · have xf : nx h2 0 = h2.length := rfl
      have xt : nx h3 0 = h3.length := rfl
      have q1 := mne ha (by simp)
      have q2 := mne hb (by simp)
      have q3 := mne hc (by simp)
      have q4 := mne hd (by simp)
      simp only [Spot.all, List.nodup_cons, List.mem_cons, List.mem_nil_iff, or_false, not_or, List.nodup_nil, and_true, xf, xt, not_false_eq_true]
      refine ⟨⟨fun z => q1 z.symm, fun z => q2 z.symm, fun z => q3 z.symm, fun z => q4 z.symm, fun z => n5 z.symm, by omega, by omega⟩, ⟨ne1, ne2, ne3, fun z => n1 z.symm, by omega, by omega⟩, ⟨ne4, ne5, fun z => n2 z.symm, by omega, by omega⟩, ⟨ne6, fun z => n3 z.symm, by omega, by omega⟩, ⟨fun z => n4 z.symm, by omega, by omega⟩, ⟨by omega, by omega⟩, by omega⟩
    · refine mO (by show m ≠ _; omega) ?_
      rw [w1, ← eD]
      have ef2 : (framesT p)[k]?.getD [] = fs := by rw [hf]; rfl
      simp [mDO, mD, mgO, extE, extL, plcA, gdOf, lsOf, gOf, ef2, codeW]
    · exact mO (by show rm ≠ _; omega) ha3
    · exact mO (by show rr ≠ _; omega) hb3
    · exact mO (by show rd ≠ _; omega) hc3
    · exact mO (by show rt ≠ _; omega) hd3
    · exact mO (by show ri ≠ _; omega) hi3
    · refine mO (by show nx h2 0 ≠ _; unfold nx; omega) ?_
      rw [hf3]
      simp [intsO, gdOf]
    · refine mO (by show nx h3 0 ≠ _; unfold nx; omega) ?_
      rw [w2]
      simp [intsO, gdOf]
end
end Nw

set_option Elab.async false
set_option linter.all false
set_option maxRecDepth 100000
set_option maxHeartbeats 4000000
/-! The laws' own system: laid, whole; a run. -/
namespace Nw
open PySem PySem.Spec PyProof.Rows L2
section
variable {n : Nat} {L : Nat} {p : PlanT} {Gs : List GD} {h h' : VH} {adr adr' : Rl → Nat} {Y : YSt} {g b k : Nat} {G : GD} {s s' : LS}
def Ye (p : PlanT) : YSt := ⟨0, 0, ⟨List.replicate p.sets [], []⟩, List.replicate p.chans.length [], []⟩
def adr0 (sb st pr ow wb wa na y : Nat) : Rl → Nat
  | .y => y
  | .sets => st
  | .set i => sb + i
  | .pairs => pr
  | .own => ow
  | .waits => wa
  | .wt i => wb + i
  | .names => na
  | _ => 0
theorem YR.first {sb st pr ow wb wa na y : Nat} (o1 : L ≤ sb) (o2 : sb + p.sets ≤ st) (o3 : st < pr) (o4 : pr < ow) (o5 : ow < wb) (o6 : wb + p.chans.length ≤ wa) (o7 : wa < na) (o8 : na < y)
    (hs : ∀ i, i < p.sets → hg h (sb + i) = some (.lst [])) (hst : hg h st = some (.lst ((List.range p.sets).map fun i => .ref (sb + i)))) (hpr : hg h pr = some (.lst [])) (how : hg h ow = some (.lst []))
    (hw : ∀ i, i < p.chans.length → hg h (wb + i) = some (.lst [])) (hwa : hg h wa = some (.lst ((List.range p.chans.length).map fun i => .ref (wb + i)))) (hna : hg h na = some (.lst (p.names.map W.str)))
    (hy : hg h y = some (.dct (yD p (adr0 sb st pr ow wb wa na y) 0 0))) : YR L p [] h (adr0 sb st pr ow wb wa na y) (Ye p) := by
  have cls : ∀ z, (objs p [] (adr0 sb st pr ow wb wa na y) (Ye p) z).isSome = true → z = .y ∨ z = .sets ∨ (∃ i, z = .set i ∧ i < p.sets) ∨ z = .pairs ∨ z = .own ∨ z = .waits ∨ (∃ i, z = .wt i ∧ i < p.chans.length) ∨ z = .names := fun z hz => by
    cases z with
    | set i =>
      right; right; left
      refine ⟨i, rfl, ?_⟩
      simp only [objs, Option.isSome_map, Ye] at hz
      by_cases c : i < p.sets
      · exact c
      · rw [List.getElem?_eq_none (by simp; omega)] at hz; cases hz
    | wt i =>
      right; right; right; right; right; right; left
      refine ⟨i, rfl, ?_⟩
      simp only [objs, Option.isSome_map, Ye] at hz
      by_cases c : i < p.chans.length
      · exact c
      · rw [List.getElem?_eq_none (by simp; omega)] at hz; cases hz
    | y | sets | pairs | own | waits | names => simp
    | _ => simp [objs, Ye] at hz
  refine ⟨⟨fun z o hz => ?_, fun z t hz ht e => ?_⟩, fun z hz => ?_⟩
  · rcases cls z (by rw [hz]; rfl) with rfl | rfl | ⟨i, rfl, hi⟩ | rfl | rfl | rfl | ⟨i, rfl, hi⟩ | rfl
    · rw [← hz]; exact hy
    · rw [← hz]; simp only [objs, refsW, Ye, List.length_replicate]; exact hst
    · rw [← hz]; simp only [objs, Ye, List.getElem?_replicate, if_pos hi]; exact hs i hi
    · rw [← hz]; exact hpr
    · rw [← hz]; exact how
    · rw [← hz]; simp only [objs, refsW, Ye, List.length_replicate]; exact hwa
    · rw [← hz]; simp only [objs, Ye, List.getElem?_replicate, if_pos hi]; exact hw i hi
    · rw [← hz]; exact hna
  · rcases cls z hz with rfl | rfl | ⟨i, rfl, hi⟩ | rfl | rfl | rfl | ⟨i, rfl, hi⟩ | rfl <;> rcases cls t ht with rfl | rfl | ⟨j, rfl, hj⟩ | rfl | rfl | rfl | ⟨j, rfl, hj⟩ | rfl <;> simp only [adr0] at e <;> first | rfl | (exfalso; omega) | (congr 1; omega)
  · rcases cls z hz with rfl | rfl | ⟨i, rfl, hi⟩ | rfl | rfl | rfl | ⟨i, rfl, hi⟩ | rfl <;> simp only [adr0] <;> omega
theorem c_system {gs : List Gst} (pk : PlanOk p) (ok : ∀ x ∈ gs, GOk x.1 x.2) (gl : gs.length = p.names.length) :
    Run (prg.call (n + 4) f_law_system [planW p, gstsW gs] h) fun r h' => ∃ adr, r = .ref (adr .y) ∧ YR h.length p (gdsOf p gs) h' adr (Y0 p gs) ∧ Mod no h h' := by
  refine run_q fun Q q => ?_
  rw [u_law_system]
  refine run_cut 1 (fun env h' => env 0 = some (planW p) ∧ env 1 = some (gstsW gs) ∧ ∃ adr, env 2 = some (.ref (adr .y)) ∧ YR h.length p [] h' adr (Ye p) ∧ Mod no h h') ?_ ?_
  · refine run_q fun Q1 q1 => ?_
    have st := pk.sets
    have chl := pk.chl
    have n1 := pk.n1
    have ss : p.sets ≤ 64 := st.2.2
    have rg := fun h2 : VH => z_rg1 (h := h2) (j := (p.sets : Int)) (by omega) (by omega)
    simp [b_law_system, rg]
    have hrl : (rangeW 0 (p.sets : Int)).length = p.sets := by rw [range_len]; omega
    refine run_bind (lc_news (h := h) (rangeW 0 (p.sets : Int)) (its := .ws (rangeW 0 (p.sets : Int))) rfl (fun _ => rfl) (by rw [hrl]; omega) (fun w h' => by simp [e_law_system_1])) ?_
    rintro _ h1 ⟨rfl, len1, new1, m1⟩
    rw [hrl] at len1 new1
    rw [hrl]
    have le : p.sets ≤ 16777216 := by omega
    simp [le]
    have f0 : ∀ i, i < p.sets → hg (hn (hn (hn h1 (O.lst ((List.range p.sets).map fun i => W.ref (h.length + i)))) (O.lst [])) (O.lst [])) (h.length + i) = some (.lst []) := fun i hi => by
      rw [hg_hn (by rw [hg_hn (by rw [hg_hn (by rw [new1 i hi]; rfl), new1 i hi]; rfl), hg_hn (by rw [new1 i hi]; rfl), new1 i hi]; rfl), hg_hn (by rw [hg_hn (by rw [new1 i hi]; rfl), new1 i hi]; rfl), hg_hn (by rw [new1 i hi]; rfl), new1 i hi]
    have f1 : hg (hn (hn (hn h1 (O.lst ((List.range p.sets).map fun i => W.ref (h.length + i)))) (O.lst [])) (O.lst [])) (nx h1 0) = some (.lst ((List.range p.sets).map fun i => W.ref (h.length + i))) := by simp
    have f2 : hg (hn (hn (hn h1 (O.lst ((List.range p.sets).map fun i => W.ref (h.length + i)))) (O.lst [])) (O.lst [])) (nx h1 1) = some (.lst []) := by simp
    have f3 : hg (hn (hn (hn h1 (O.lst ((List.range p.sets).map fun i => W.ref (h.length + i)))) (O.lst [])) (O.lst [])) (nx h1 2) = some (.lst []) := by simp
    have m2 : Mod no h1 (hn (hn (hn h1 (O.lst ((List.range p.sets).map fun i => W.ref (h.length + i)))) (O.lst [])) (O.lst [])) := (Mod.new.trans Mod.new).trans Mod.new
    have l2 : (hn (hn (hn h1 (O.lst ((List.range p.sets).map fun i => W.ref (h.length + i)))) (O.lst [])) (O.lst [])).length = h1.length + 3 := by rw [hn_len, hn_len, hn_len]
    generalize hn (hn (hn h1 (O.lst ((List.range p.sets).map fun i => W.ref (h.length + i)))) (O.lst [])) (O.lst []) = h2 at *
    refine run_bind (lc_news (h := h2) (p.chans.map (chanW p)) (its := .ws (p.chans.map (chanW p))) rfl (fun _ => rfl) (by rw [List.length_map]; omega) (fun w h' => by simp [e_law_system_2])) ?_
    rintro _ h3 ⟨rfl, len3, new3, m3⟩
    rw [List.length_map] at len3 new3
    rw [List.length_map]
    have le3 : p.chans.length ≤ 16777216 := by omega
    simp [le3]
    have m4 : Mod no h3 (hn h3 (O.lst ((List.range p.chans.length).map fun i => W.ref (h2.length + i)))) := Mod.new
    have l4 : (hn h3 (O.lst ((List.range p.chans.length).map fun i => W.ref (h2.length + i)))).length = h3.length + 1 := by rw [hn_len]
    have f4 : hg (hn h3 (O.lst ((List.range p.chans.length).map fun i => W.ref (h2.length + i)))) (nx h3 0) = some (.lst ((List.range p.chans.length).map fun i => W.ref (h2.length + i))) := hg_new'
    generalize hn h3 (O.lst ((List.range p.chans.length).map fun i => W.ref (h2.length + i))) = h4 at *
    have lz : (p.names.zip p.many).length ≤ 16777216 := by rw [List.length_zip]; omega
    refine run_bind (lc_mapx (p.names.zip p.many) (fun x => W.tup [.str x.1, .int x.2]) (fun x => W.str x.1) (its := .ws (guestL p)) rfl lz (fun x h5 hx md => ?_)) ?_
    · simp [e_law_system_3]
      exact Mod.rfl
    rintro _ h5 ⟨rfl, m5⟩
    have en : (p.names.zip p.many).map (fun x => W.str x.1) = p.names.map W.str := by
      have : (p.names.zip p.many).map (·.1) = p.names := List.map_fst_zip (by rw [pk.lm]; omega)
      have e2 : (p.names.zip p.many).map (fun x => W.str x.1) = ((p.names.zip p.many).map (·.1)).map W.str := by rw [List.map_map]; rfl
      rw [e2, this]
    rw [en]
    have nl : p.names.length ≤ 16777216 := by omega
    simp [nl]
    have lm5 := m5.1
    have lm3 := m3.1
    have lm1 := m1.1
    have g1 := (m3.trans m4).trans m5
    have kp : ∀ {q o}, hg h5 q = some o → ∀ (a b : O), hg (hn (hn h5 a) b) q = some o := fun e a b => (Mod.new (s := no)).get ((Mod.new (s := no)).get e (fun z => z)) (fun z => z)
    have ad : yD p (adr0 h.length (nx h1 0) (nx h1 1) (nx h1 2) h2.length (nx h3 0) (nx h5 0) (nx h5 1)) 0 0 = [(.inr (S [112, 108, 97, 110]), planW p), (.inr (S [99, 108, 111, 99, 107]), .int 0), (.inr (S [115, 108, 111, 116]), .int 0), (.inr (S [115, 101, 116, 115]), .ref (nx h1 0)), (.inr (S [112, 97, 105, 114, 115]), .ref (nx h1 1)), (.inr (S [111, 119, 110]), .ref (nx h1 2)), (.inr (S [119, 97, 105, 116, 115]), .ref (nx h3 0)), (.inr (S [110, 97, 109, 101, 115]), .ref (nx h5 0))] := rfl
    have r := YR.first (L := h.length) (p := p) (h := hn (hn h5 (O.lst (p.names.map W.str))) (.dct (yD p (adr0 h.length (nx h1 0) (nx h1 1) (nx h1 2) h2.length (nx h3 0) (nx h5 0) (nx h5 1)) 0 0)))
      (sb := h.length) (st := nx h1 0) (pr := nx h1 1) (ow := nx h1 2) (wb := h2.length) (wa := nx h3 0) (na := nx h5 0) (y := nx h5 1)
      (Nat.le_refl _) (by unfold nx; omega) (by unfold nx; omega) (by unfold nx; omega) (by unfold nx; omega) (by unfold nx; omega) (by unfold nx; omega) (by unfold nx; omega)
      (fun i hi => kp (g1.get (f0 i hi) (fun z => z)) _ _) (kp (g1.get f1 (fun z => z)) _ _) (kp (g1.get f2 (fun z => z)) _ _) (kp (g1.get f3 (fun z => z)) _ _)
      (fun i hi => kp ((m4.trans m5).get (new3 i hi) (fun z => z)) _ _) (kp (m5.get f4 (fun z => z)) _ _) ((Mod.new (s := no)).get hg_new' (fun z => z))
      (by have : nx h5 1 = nx (hn h5 (O.lst (p.names.map W.str))) 0 := by simp
          rw [this]; exact hg_new')
    rw [ad] at r
    refine q1 _ _ ⟨rfl, by simp, by simp, adr0 h.length (nx h1 0) (nx h1 1) (nx h1 2) h2.length (nx h3 0) (nx h5 0) (nx h5 1), by simp [adr0], r, ?_⟩
    exact ((((m1.trans m2).trans g1).trans Mod.new).trans Mod.new)
  · rintro env h1 ⟨v0, v1, adr, v2, r, m1⟩
    have n0 := pk.n0
    have n1 := pk.n1
    have st := pk.sets
    simp [b_law_system, v0, v1]
    refine run_bind (c_frames (n := n + 2) pk.lm (by omega) pk.n1 pk.m0 (by omega) st.2.2) ?_
    rintro _ h2 ⟨rfl, m2⟩
    have rg := z_rg1 (h := h2) (j := (gs.length : Int)) (by omega) (by omega)
    simp [v1, gstsW, rg]
    have hrl : (rangeW 0 (gs.length : Int)).length = gs.length := by rw [range_len]; omega
    refine run_bind (for_all (rangeW 0 (gs.length : Int)) (fun k env h' => env 0 = some (planW p) ∧ env 1 = some (gstsW gs) ∧ env 2 = some (.ref (adr .y)) ∧ env 3 = some (.tup ((framesT p).map fun fs => .tup (fs.map W.int))) ∧
      ∃ adr', adr' .y = adr .y ∧ YR h.length p (gdsOf p (gs.take k)) h' adr' { Ye p with own := (gs.take k).map lsOf } ∧ Mod no h h') ⟨by simp [v0], by simp [v1], by simp [v2], by simp, adr, rfl, r.mno m2, m1.trans m2⟩ (fun _ _ _ _ => rfl) (fun k w env h' hw ⟨v0, v1, v2, v3, adr', ay, r', m'⟩ => ?_)) ?_
    · obtain ⟨rfl, lt⟩ := range_at hw
      have lt : k < gs.length := by omega
      have hx : gs[k]? = some gs[k] := List.getElem?_eq_getElem lt
      have fl : (framesT p).length = p.names.length := by rw [framesT_len, pk.lm]
      have hf : (framesT p)[k]? = some ((framesT p)[k]'(by omega)) := List.getElem?_eq_getElem (by omega)
      have lk : (gs.take k).length = k := by rw [List.length_take]; omega
      have tr := sys_turn (n := n) (k := k) (x := gs[k]) (env := env) r' (by unfold gdsOf; rw [List.length_mapIdx, lk]) (by show (List.map _ _).length = k; rw [List.length_map, lk]) pk (ok _ (List.getElem_mem lt)) hx hf (by omega) (by omega) v0 v1 (by rw [ay]; exact v2) v3
      have ek : (0 : Int) + (k : Int) = ((k : Nat) : Int) := by omega
      rw [ek]
      refine tr.imp ?_
      rintro ⟨fl, env'⟩ h'' ⟨w, w0, w1, w2, w3, adr2, ay2, r2, mm⟩
      have et : gs.take (k + 1) = gs.take k ++ [gs[k]] := by rw [List.take_add_one, hx]; rfl
      refine ⟨w, w0, w1, by rw [← ay]; exact w2, w3, adr2, ay2.trans ay, ?_, ?_⟩
      · rw [et]
        have e1 : gdsOf p (gs.take k ++ [gs[k]]) = gdsOf p (gs.take k) ++ [gdOf p k gs[k]] := by unfold gdsOf; rw [List.mapIdx_concat, lk]
        rw [e1, List.map_append]
        exact r2
      · refine Mod.seq m' mm (fun _ _ z => z) (fun q hq z => ?_)
        have z : h.length ≤ q := z
        omega
    · rintro ⟨fl, env'⟩ h3 ⟨rfl, _, _, w2, _, adr3, ay, r3, m3⟩
      rw [hrl, List.take_length] at r3
      have w2 : env' 2 = some (.ref (adr .y)) := w2
      simp [w2]
      exact q _ _ ⟨adr3, by rw [ay], r3, m3⟩
end
end Nw

set_option Elab.async false
set_option linter.all false
set_option maxRecDepth 100000
set_option maxHeartbeats 4000000
/-! The laws' own system: a run of slots. -/
namespace Nw
open PySem PySem.Spec PyProof.Rows L2
def slotSt (p : PlanT) (Gs : List GD) (Y : YSt) : En × YSt := match Y.own[(slotOf p Y.slot).1]?, Gs[(slotOf p Y.slot).1]? with
  | some s, some G => (entryOf G Y.clock (slotY (pdOf p) G Y.clock (slotOf p Y.slot).2 ⟨s, Y.sh, Y.ch⟩), { (Y.st (slotOf p Y.slot).1 (slotY (pdOf p) G Y.clock (slotOf p Y.slot).2 ⟨s, Y.sh, Y.ch⟩).1) with clock := Y.clock + (slotOf p Y.slot).2, slot := Y.slot + 1 })
  | _, _ => (⟨0, 0, 0, [], 0, [], (S [])⟩, Y)
def stY (p : PlanT) (Gs : List GD) (Y : YSt) : Nat → YSt
  | 0 => Y
  | k + 1 => (slotSt p Gs (stY p Gs Y k)).2
def runY (p : PlanT) (gs : List Gst) (N : Nat) : List En := (List.range N).map fun k => (slotSt p (gdsOf p gs) (stY p (gdsOf p gs) (Y0 p gs) k)).1
section
variable {n : Nat} {L : Nat} {p : PlanT} {Gs : List GD} {h h' : VH} {adr adr' : Rl → Nat} {Y : YSt} {g b k : Nat} {G : GD} {s s' : LS}
theorem gds_at {gs : List Gst} (h : (gdsOf p gs)[g]? = some G) : ∃ x, gs[g]? = some x ∧ G = gdOf p g x := by
  unfold gdsOf at h
  rw [List.getElem?_mapIdx] at h
  cases e : gs[g]? with
  | none => rw [e] at h; cases h
  | some x => rw [e] at h; exact ⟨x, rfl, (Option.some.inj h).symm⟩
theorem M0_w' {code : List Ins} {first ans : List Int} (ok : GOk code first) : MW (gOf code ans) 0 (M0 code first) := by
  have z : isW 0 := ⟨by decide, by decide⟩
  refine ⟨by simp [M0], fun x hx => ?_, fun x hx => ?_, Nat.zero_le _, Nat.zero_le _, Nat.zero_le _, Int.le_refl 0⟩
  · simp only [M0, List.mem_replicate] at hx; rw [hx.2]; exact z
  · simp only [M0, memOf, memA, List.mem_append, List.mem_replicate, List.mem_map] at hx
    rcases hx with ((⟨i, hi, rfl⟩ | hx) | hx) | hx
    · exact codeN_w (ok.ins i hi)
    · rw [hx.2]; exact z
    · exact ok.firstW x hx
    · rw [hx.2]; exact z
theorem Y0_ok {gs : List Gst} (pk : PlanOk p) (ok : ∀ x ∈ gs, GOk x.1 x.2) (gl : gs.length = p.names.length) : YOk p (gdsOf p gs) (Y0 p gs) 0 := by
  have st := pk.sets
  have n0 := pk.n0
  have chl := pk.chl
  have frl : ∀ (f : Nat → Bool), ((List.range p.chans.length).filter f).length ≤ 100 := fun f => Nat.le_trans (List.length_filter_le _ _) (by simp; omega)
  refine ⟨⟨?_, ?_, st.2.2, fun l hl => ?_, Nat.zero_le _, pk.room, pk.ways, ?_, ?_, fun k l hl => ?_, ?_⟩, fun G hG => ?_, fun g s G h1 h2 => ?_, fun l hl => ?_⟩
  · simp [Y0, pdOf]
  · show 0 < p.sets; omega
  · rw [List.eq_of_mem_replicate (show l ∈ List.replicate _ _ from hl)]; simp
  · simp [Y0, pdOf]
  · intro r hr
    simp only [pdOf, List.mem_map] at hr
    obtain ⟨c, hc, rfl⟩ := hr
    have := pk.ch c hc
    exact ⟨this.2.2.2.1, this.2.2.2.2⟩
  · rw [List.eq_of_mem_replicate (List.mem_of_getElem? hl)]; simp
  · simp [gdsOf, Y0]
  · obtain ⟨g, hg⟩ := List.mem_iff_getElem?.mp hG
    obtain ⟨x, hx, rfl⟩ := gds_at hg
    have o := ok x (List.mem_of_getElem? hx)
    have cl : (Y0 p gs).ch.length = p.chans.length := by simp [Y0]
    refine ⟨o.ins, o.len, by show (0 : Int) ≤ (up16 x.1.length : Nat); omega, fun k hk => ?_, fun k hk => ?_, frl _, frl _⟩
    · rw [cl]; exact List.mem_range.mp (List.mem_filter.mp hk).1
    · rw [cl]; exact List.mem_range.mp (List.mem_filter.mp hk).1
  · obtain ⟨x, hx, rfl⟩ := gds_at h2
    have o := ok x (List.mem_of_getElem? hx)
    have h1 : (gs.map lsOf)[g]? = some s := h1
    rw [List.getElem?_map, hx] at h1
    cases h1
    have gk : g < gs.length := (List.getElem?_eq_some_iff.mp hx).1
    have fl : (framesT p).length = p.names.length := by rw [framesT_len, pk.lm]
    have hf : (framesT p)[g]? = some ((framesT p)[g]'(by omega)) := List.getElem?_eq_getElem (by omega)
    have eg : (gdOf p g x).frames = (framesT p)[g]'(by omega) := by show (framesT p)[g]?.getD [] = _; rw [hf]; rfl
    obtain ⟨m, hm, fm⟩ := framesT_many p st.1 pk.lm hf
    have mb := pk.m0 m (List.mem_of_getElem? hm)
    have w := M0_w' (ans := []) o
    refine ⟨⟨fun f hf' => ?_, by rw [eg, fm]; exact mb.1, by rw [eg, fm]; exact mb.2, Nat.zero_le _, fun q hq => absurd hq (by simp [lsOf])⟩, w.cast rfl, by simp [lsOf], by simp [lsOf, M0]⟩
    rw [eg] at hf'
    have := pk.mem _ (List.getElem_mem _) f hf'
    have m1 := pk.mem1
    exact ⟨(framesL_le p (B := 64) (by omega) (fun m hm => (pk.m0 m hm).2) p.many 0 0 (fun m hm => (pk.m0 m hm).2) _ (List.mem_of_getElem? hf) f hf').1, by omega⟩
  · rw [List.eq_of_mem_replicate hl]; simp
theorem slotSt_eq {Gs : List GD} (e0 : Y.own[(slotOf p Y.slot).1]? = some s) (hG : Gs[(slotOf p Y.slot).1]? = some G) : slotSt p Gs Y = (entryOf G Y.clock (slotY (pdOf p) G Y.clock (slotOf p Y.slot).2 ⟨s, Y.sh, Y.ch⟩), { (Y.st (slotOf p Y.slot).1 (slotY (pdOf p) G Y.clock (slotOf p Y.slot).2 ⟨s, Y.sh, Y.ch⟩).1) with clock := Y.clock + (slotOf p Y.slot).2, slot := Y.slot + 1 }) := by
  unfold slotSt
  rw [e0, hG]
theorem slotOf_ok (pk : PlanOk p) (k : Nat) : slotOf p k ∈ p.slots := by
  have sl := List.length_pos_iff.mpr pk.sl0
  have hk : k % p.slots.length < p.slots.length := Nat.mod_lt _ sl
  unfold slotOf
  rw [List.getElem?_eq_getElem hk]
  exact List.getElem_mem hk
theorem c_run {N : Nat} {gs : List Gst} (pk : PlanOk p) (ok : ∀ x ∈ gs, GOk x.1 x.2) (gl : gs.length = p.names.length) (tk : ∀ s ∈ p.slots, s.2 ≤ 1000) (hN : N ≤ 900) :
    Run (prg.call (n + 5) f_law_run_plan [planW p, gstsW gs, .int (N : Nat)] h) fun r h' => r = .tup ((runY p gs N).map enW) ∧ Mod no h h' := by
  refine run_q fun Q q => ?_
  rw [u_law_run_plan]
  simp [b_law_run_plan]
  refine run_bind (c_system (n := n) pk ok gl) ?_
  rintro _ h1 ⟨adr, rfl, r, m1⟩
  have rg := z_rg1 (h := h1) (j := (N : Int)) (by omega) (by omega)
  simp [rg]
  have hrl : (rangeW 0 (N : Int)).length = N := by rw [range_len]; omega
  refine run_bind (lc_inv (rangeW 0 (N : Int)) (fun k acc h' => acc = (List.range k).map (fun j => enW (slotSt p (gdsOf p gs) (stY p (gdsOf p gs) (Y0 p gs) j)).1) ∧
      ∃ adr', adr' .y = adr .y ∧ YR h.length p (gdsOf p gs) h' adr' (stY p (gdsOf p gs) (Y0 p gs) k) ∧ YOk p (gdsOf p gs) (stY p (gdsOf p gs) (Y0 p gs) k) (1000 * k) ∧ (stY p (gdsOf p gs) (Y0 p gs) k).slot = k ∧ (stY p (gdsOf p gs) (Y0 p gs) k).own.length = gs.length ∧ Mod no h h')
    ⟨rfl, adr, rfl, r, Y0_ok pk ok gl, rfl, by simp [stY, Y0], m1⟩ (by rw [hrl]; omega) (fun _ _ _ _ => rfl) (fun k w acc h' hw ⟨ea, adr', ay, r', ok', sl, ol, m'⟩ => ?_)) ?_
  · obtain ⟨rfl, lt⟩ := range_at hw
    have lt : k < N := by omega
    generalize hY : stY p (gdsOf p gs) (Y0 p gs) k = Y at *
    have hs1 := slotOf_ok pk Y.slot
    obtain ⟨s1, s2, s3⟩ := pk.sl _ hs1
    have s4 := tk _ hs1
    obtain ⟨s0, e0⟩ : ∃ s0, Y.own[(slotOf p Y.slot).1]? = some s0 := ⟨_, List.getElem?_eq_getElem (by omega)⟩
    have gdl : (gdsOf p gs).length = gs.length := by unfold gdsOf; rw [List.length_mapIdx]
    obtain ⟨G0, hG⟩ : ∃ G0, (gdsOf p gs)[(slotOf p Y.slot).1]? = some G0 := ⟨_, List.getElem?_eq_getElem (by omega)⟩
    have cs := c_slot (n := n) r' ok' pk (by omega) e0 hG (by omega)
    have es := slotSt_eq e0 hG
    have eN : stY p (gdsOf p gs) (Y0 p gs) (k + 1) = (slotSt p (gdsOf p gs) Y).2 := by show (slotSt p (gdsOf p gs) (stY p (gdsOf p gs) (Y0 p gs) k)).2 = _; rw [hY]
    rw [ay] at cs
    simp [e_law_run_plan_1]
    refine run_bind cs ?_
    rintro _ h2 ⟨rfl, adr2, r2, ok2, k2, m2⟩
    have e1 : (slotSt p (gdsOf p gs) Y).1 = _ := congrArg Prod.fst es
    have e2 : (slotSt p (gdsOf p gs) Y).2 = _ := congrArg Prod.snd es
    refine ⟨_, _, rfl, ?_, adr2, k2.y.trans ay, ?_, ?_, ?_, ?_, ?_⟩
    · have e3 : enW (slotSt p (gdsOf p gs) (stY p (gdsOf p gs) (Y0 p gs) k)).1 = _ := congrArg enW ((congrArg (fun z => (slotSt p (gdsOf p gs) z).1) hY).trans e1)
      rw [List.range_succ, List.map_append, ← ea, List.map_singleton, e3]
      rfl
    · rw [eN, e2]; exact r2
    · rw [eN, e2]; exact ok2.le (by omega)
    · rw [eN, e2]; show Y.slot + 1 = k + 1; omega
    · rw [eN, e2]
      show (List.set _ _ _).length = _
      rw [List.length_set]; exact ol
    · exact Mod.seq m' m2 (fun _ _ z => z) (fun q hq z => by have z : h.length ≤ q := z; omega)
  · rintro acc h2 ⟨⟨ea, _, _, _, _, _, _, m2⟩, al⟩
    rw [hrl] at ea al
    have al : acc.length ≤ 16777216 := by omega
    simp [al]
    refine q _ _ ⟨?_, m2.trans Mod.new⟩
    rw [ea]
    unfold runY
    rw [List.map_map]
    rfl
end
end Nw

set_option Elab.async false
set_option linter.all false
set_option maxRecDepth 100000
set_option maxHeartbeats 4000000
/-! What an entry of a run is. -/
namespace Nw
open PySem PySem.Spec PyProof.Rows L2
/-- a deed -/
inductive Dd where
  | send (p v : Int) | ask (p v : Int) | take (p v : Int) | time (v : Int) | rest
def dW : Dd → W
  | .send p v => .tup [.str (S [115, 101, 110, 100]), .int p, .int v]
  | .ask p v => .tup [.str (S [97, 115, 107]), .int p, .int v]
  | .take p v => .tup [.str (S [116, 97, 107, 101]), .int p, .int v]
  | .time v => .tup [.str (S [116, 105, 109, 101]), .int v]
  | .rest => .tup [.str (S [114, 101, 115, 116])]
def DdOk : Dd → Prop
  | .send p _ => isR p
  | .ask p _ => isR p
  | .take p _ => isR p
  | _ => True
def DD (w : W) : Prop := ∃ d, w = dW d ∧ DdOk d
def ends : List Str := [(S []), (S [100, 111, 110, 101]), (S [98, 111, 117, 110, 100]), (S [102, 97, 117, 108, 116]), (S [111, 112, 101, 110])]
structure LOk (M : MS) (b : Nat) : Prop where
  dd : ∀ w ∈ M.deeds, DD w
  wd : M.word ∈ ends
  rl : M.regs.length = 8
  dl : M.deeds.length ≤ b
structure EnOk (m : Nat) (e : En) : Prop where
  g : ∃ k : Nat, e.g = k ∧ k < m
  dd : ∀ w ∈ e.deeds, DD w
  wd : e.word ∈ ends
  rl : e.regs.length = 8
  dl : e.deeds.length ≤ 1000
section
variable {P : PD} {p : PlanT} {Gs : List GD} {Y : YSt} {g b : Nat} {G : GD} {s s' : LS}
theorem step_lok {gm : MG} {M : MS} {i : Ins} (ok : InsOk i) (h : LOk M b) : LOk (step gm M i) (b + 1) := by
  have app : ∀ {l : List W} {d : Dd}, (∀ w ∈ l, DD w) → DdOk d → ∀ w ∈ l ++ [dW d], DD w := fun hl hd w hw => by
    rcases List.mem_append.mp hw with z | z
    · exact hl w z
    · simp at z; exact ⟨_, z, hd⟩
  obtain ⟨h1, h2, h3, h4⟩ := h
  cases i with
  | fin w => exact ⟨h1, by rcases ok with rfl | rfl <;> simp [step, stepI, ends], by simp [step, stepI, h3], by simp only [step, stepI]; omega⟩
  | send q r => exact ⟨app (d := .send q _) h1 ok.1, h2, by simp [step, stepI, h3], by simp [step, stepI]; omega⟩
  | rest => exact ⟨app (d := .rest) h1 trivial, h2, by simp [step, stepI, h3], by simp [step, stepI]; omega⟩
  | ask r q =>
    simp only [step, stepI]
    split
    · exact ⟨h1, by simp [ends], by simp [h3], by simp only []; omega⟩
    · exact ⟨app (d := .ask q _) h1 ok.2, h2, by simp [h3], by simp; omega⟩
  | take r q =>
    simp only [step, stepI]
    split
    · exact ⟨h1, by simp [ends], by simp [h3], by simp only []; omega⟩
    · exact ⟨app (d := .take q _) h1 ok.2, h2, by simp [h3], by simp; omega⟩
  | time r =>
    simp only [step, stepI]
    split
    · exact ⟨h1, by simp [ends], by simp [h3], by simp only []; omega⟩
    · exact ⟨app (d := .time _) h1 trivial, h2, by simp [h3], by simp; omega⟩
  | load r q k | store r q k =>
    simp only [step, stepI]
    split
    · exact ⟨h1, by simp [ends], by simp [h3], by simp only []; omega⟩
    · exact ⟨h1, h2, by simp [h3], by simp only []; omega⟩
  | unl r k =>
    simp only [step, stepI]
    split
    · exact ⟨h1, h2, by simp [h3], by simp only []; omega⟩
    · exact ⟨h1, h2, by simp [h3], by simp only []; omega⟩
  | _ => exact ⟨h1, h2, by simp [step, stepI, h3], by simp only [step, stepI]; omega⟩
theorem step1_lok {x : ST} {c : Int} (ins : ∀ i ∈ G.code, InsOk i) (h : LOk x.s.M b) : LOk (step1 P G x c).1.s.M (b + 1) := by
  have up : LOk x.s.M (b + 1) := ⟨h.dd, h.wd, h.rl, by have := h.dl; omega⟩
  obtain ⟨s, sh, ch⟩ := x
  by_cases cc : (G.code.length : Int) ≤ s.M.at_
  · unfold step1; rw [if_pos cc]
    exact ⟨up.dd, by simp [ends], up.rl, up.dl⟩
  · rw [step1_eq _ _ _ _ _ _ cc]
    split
    · exact up
    · have io := insAt_ok (M := s.M) ins
      show LOk (endAt _ _) _
      have h0 : LOk (preM s.M (answer G ch c (insAt G s.M)).1) b := by cases (answer G ch c (insAt G s.M)).1 <;> exact ⟨h.dd, h.wd, h.rl, h.dl⟩
      have h1 := step_lok (gm := ⟨G.code, G.base, ansOf s.ans (answer G ch c (insAt G s.M)).1, .nil⟩) io h0
      unfold endAt
      split
      · exact h1
      · exact ⟨h1.dd, h1.wd, h1.rl, h1.dl⟩
theorem slotGo_lok {c t : Int} (ins : ∀ i ∈ G.code, InsOk i) : ∀ (n : Nat) (x : ST) (u : Int) (b : Nat), LOk x.s.M b → LOk (slotGo P G c t n x u).1.s.M (b + n)
  | 0, x, u, b, h => h
  | n + 1, x, u, b, h => by
    unfold slotGo
    split
    · have := slotGo_lok (c := c) (t := t) ins n (step1 P G x (c + u)).1 (u + (step1 P G x (c + u)).2) (b + 1) (step1_lok (P := P) (c := c + u) ins h)
      rw [show b + (n + 1) = b + 1 + n by omega]
      exact this
    · exact ⟨h.dd, h.wd, h.rl, by have := h.dl; show x.s.M.deeds.length ≤ _; omega⟩
theorem slotY_lok {c t : Int} {x : ST} (ins : ∀ i ∈ G.code, InsOk i) (wd : x.s.M.word ∈ ends) (rl : x.s.M.regs.length = 8) : LOk (slotY P G c t x).1.s.M t.toNat := by
  have := slotGo_lok (P := P) (c := c) (t := t) ins t.toNat (atSlot P x) 0 0 ⟨fun w hw => absurd hw (by simp [atSlot]), wd, rl, Nat.le_refl _⟩
  rw [Nat.zero_add] at this
  exact this
/-- the words and registers of all guests -/
def YW (Y : YSt) : Prop := ∀ s ∈ Y.own, s.M.word ∈ ends ∧ s.M.regs.length = 8
theorem slotSt_ok (pk : PlanOk p) (tk : ∀ s ∈ p.slots, s.2 ≤ 1000) (ins : ∀ G ∈ Gs, ∀ i ∈ G.code, InsOk i) (num : ∀ (k : Nat) G, Gs[k]? = some G → G.num = (k : Int)) (gl : Gs.length = p.names.length) (ol : Y.own.length = p.names.length) (yw : YW Y) :
    EnOk p.names.length (slotSt p Gs Y).1 ∧ YW (slotSt p Gs Y).2 ∧ (slotSt p Gs Y).2.own.length = p.names.length := by
  have hs1 := slotOf_ok pk Y.slot
  obtain ⟨s1, s2, s3⟩ := pk.sl _ hs1
  have s4 := tk _ hs1
  obtain ⟨s, e0⟩ : ∃ s, Y.own[(slotOf p Y.slot).1]? = some s := ⟨_, List.getElem?_eq_getElem (by omega)⟩
  obtain ⟨G, hG⟩ : ∃ G, Gs[(slotOf p Y.slot).1]? = some G := ⟨_, List.getElem?_eq_getElem (by omega)⟩
  rw [slotSt_eq e0 hG]
  have ys := yw s (List.mem_of_getElem? e0)
  have lk := slotY_lok (P := pdOf p) (c := Y.clock) (t := (slotOf p Y.slot).2) (x := ⟨s, Y.sh, Y.ch⟩) (ins G (List.mem_of_getElem? hG)) ys.1 ys.2
  refine ⟨⟨⟨_, num _ G hG, s1⟩, lk.dd, lk.wd, lk.rl, Nat.le_trans lk.dl (by omega)⟩, fun s' hs' => ?_, ?_⟩
  · rcases List.mem_or_eq_of_mem_set (show s' ∈ List.set _ _ _ from hs') with z | z
    · exact yw s' z
    · rw [z]; exact ⟨lk.wd, lk.rl⟩
  · show (List.set _ _ _).length = _
    rw [List.length_set]; exact ol
theorem runY_ok {gs : List Gst} (pk : PlanOk p) (tk : ∀ s ∈ p.slots, s.2 ≤ 1000) (ok : ∀ x ∈ gs, GOk x.1 x.2) (gl : gs.length = p.names.length) (N : Nat) : (∀ e ∈ runY p gs N, EnOk p.names.length e) ∧ (runY p gs N).length = N := by
  have ins : ∀ G ∈ gdsOf p gs, ∀ i ∈ G.code, InsOk i := fun G hG => by
    obtain ⟨g, hg⟩ := List.mem_iff_getElem?.mp hG
    obtain ⟨x, hx, rfl⟩ := gds_at hg
    exact (ok x (List.mem_of_getElem? hx)).ins
  have num : ∀ (k : Nat) G, (gdsOf p gs)[k]? = some G → G.num = (k : Int) := fun k G h => by
    obtain ⟨x, hx, rfl⟩ := gds_at h
    rfl
  have gdl : (gdsOf p gs).length = p.names.length := by unfold gdsOf; rw [List.length_mapIdx, gl]
  have inv : ∀ k, YW (stY p (gdsOf p gs) (Y0 p gs) k) ∧ (stY p (gdsOf p gs) (Y0 p gs) k).own.length = p.names.length := fun k => by
    induction k with
    | zero =>
      refine ⟨fun s hs => ?_, by show (gs.map lsOf).length = _; rw [List.length_map, gl]⟩
      obtain ⟨x, hx, rfl⟩ := List.mem_map.mp (show s ∈ gs.map lsOf from hs)
      exact ⟨by simp [lsOf, M0, ends], by simp [lsOf, M0]⟩
    | succ k ih => exact (slotSt_ok pk tk ins num gdl ih.2 ih.1).2
  refine ⟨fun e he => ?_, by simp [runY]⟩
  obtain ⟨k, _, rfl⟩ := List.mem_map.mp (show e ∈ List.map _ _ from he)
  exact (slotSt_ok pk tk ins num gdl (inv k).2 (inv k).1).1
end
end Nw

set_option Elab.async false
set_option linter.all false
set_option maxRecDepth 100000
set_option maxHeartbeats 4000000
/-! Data told are data due; channels; numbers in lists. -/
namespace Nw
open PySem PySem.Spec PyProof.Rows L2
/-- ints, strings and tuples -/
def plW : Nat → W → Bool
  | _, .int _ => true
  | _, .str _ => true
  | n + 1, .tup ws => ws.all (plW n) && decide (ws.length ≤ 16777216)
  | _, _ => false
@[simp] theorem pl_i (n : Nat) (i : Int) : plW n (.int i) = true := by cases n <;> rfl
@[simp] theorem pl_s (n : Nat) (s : Str) : plW n (.str s) = true := by cases n <;> rfl
@[simp] theorem pl_t (n : Nat) (ws : List W) : plW (n + 1) (.tup ws) = (ws.all (plW n) && decide (ws.length ≤ 16777216)) := (rfl)
@[simp] theorem is_ts (h : VH) (s : Str) : isiW h .tuple (.str s) = some false := (rfl)
@[simp] theorem is_ti (h : VH) (i : Int) : isiW h .tuple (.int i) = some false := (rfl)
@[simp] theorem is_si (h : VH) (i : Int) : isiW h .str (.int i) = some false := (rfl)
theorem c_same {n : Nat} : ∀ (d : Nat) (w : W) (h : VH), plW d w = true → Run (prg.call (n + d + 1) f_law_same [w, w] h) fun r h' => r = .bl true ∧ Mod no h h' := by
  have str : ∀ (k : Nat) (s : Str) (h : VH), Run (prg.call (k + 1) f_law_same [.str s, .str s] h) fun r h' => r = .bl true ∧ Mod no h h' := fun k s h => by
    rw [u_law_same]
    simp [b_law_same]
    exact Mod.rfl
  have int : ∀ (k : Nat) (i : Int) (h : VH), Run (prg.call (k + 1) f_law_same [.int i, .int i] h) fun r h' => r = .bl true ∧ Mod no h h' := fun k i h => by
    rw [u_law_same]
    simp [b_law_same]
    exact Mod.rfl
  intro d
  induction d with
  | zero =>
    intro w h hw
    cases w with
    | int i => exact int _ i h
    | str s => exact str _ s h
    | _ => cases hw
  | succ d ih =>
    intro w h hw
    cases w with
    | int i => exact int _ i h
    | str s => exact str _ s h
    | tup ws =>
      simp only [pl_t, Bool.and_eq_true, decide_eq_true_eq] at hw
      refine run_q fun Q q => ?_
      rw [u_law_same]
      have rg := z_rg1 (h := h) (j := (ws.length : Int)) (by omega) (by omega)
      simp [b_law_same, rg]
      have hrl : (rangeW 0 (ws.length : Int)).length = ws.length := by rw [range_len]; omega
      refine run_bind (lc_none (l := rangeW 0 (ws.length : Int)) (its := .ws (rangeW 0 (ws.length : Int))) rfl (by rw [hrl]; exact hw.2) (fun i w h1 hi m1 => ?_)) ?_
      · obtain ⟨rfl, lt⟩ := range_at hi
        have lt : i < ws.length := by omega
        have ek : (0 : Int) + (i : Int) = ((i : Nat) : Int) := by omega
        have ea : atW ws ((i : Nat) : Int) = some ws[i] := by rw [atW_nat, List.getElem?_eq_getElem lt]
        rw [ek]
        simp [e_law_same_1, t_law_same_1, ea]
        refine run_bind (ih ws[i] h1 (List.all_eq_true.mp hw.1 _ (List.getElem_mem lt))) ?_
        rintro _ h2 ⟨rfl, m2⟩
        simp
        exact m2
      · rintro _ h2 ⟨rfl, m2⟩
        have eqn : eqW (hn (hn h2 (O.lst [])) (O.lst [])) (.ref (nx h2 0)) (.ref (nx h2 1)) = some true := by
          rw [eqW_nil (a := []) (by simp) (by simp) (by simp)]; rfl
        simp [eqn]
        exact q _ _ ⟨rfl, (m2.trans Mod.new).trans Mod.new⟩
    | _ => cases hw
def entsW (es : List En) : W := .tup (es.map enW)
theorem pl_d {d : Dd} (k : Nat) : plW (k + 1) (dW d) = true := by cases d <;> simp [dW]
theorem pl_en {m : Nat} {e : En} (ok : EnOk m e) (k : Nat) : plW (k + 3) (enW e) = true := by
  have h1 : e.deeds.all (plW (k + 1)) = true := List.all_eq_true.mpr fun w hw => by
    obtain ⟨d, rfl, _⟩ := ok.dd w hw
    exact pl_d k
  have h2 : (e.regs.map W.int).all (plW (k + 1)) = true := List.all_eq_true.mpr fun w hw => by
    obtain ⟨i, _, rfl⟩ := List.mem_map.mp hw
    simp
  have l1 := ok.dl
  have l2 := ok.rl
  simp [enW, h1, h2, l2]
  omega
theorem pl_ents {m : Nat} {es : List En} (ok : ∀ e ∈ es, EnOk m e) (l : es.length ≤ 16777216) (k : Nat) : plW (k + 4) (entsW es) = true := by
  unfold entsW
  rw [pl_t, Bool.and_eq_true]
  refine ⟨List.all_eq_true.mpr fun w hw => ?_, by simpa using l⟩
  obtain ⟨e, he, rfl⟩ := List.mem_map.mp hw
  exact pl_en (ok e he) k
section
variable {n : Nat} {p : PlanT} {h h' : VH} {g : Nat}
def natsW (l : List Nat) : List W := l.map fun k => W.int ((k : Nat) : Int)
theorem chan_at {k : Nat} (hk : k < p.chans.length) : atW (p.chans.map (chanW p)) ((k : Nat) : Int) = some (chanW p p.chans[k]) := by rw [atW_nat, List.getElem?_map, List.getElem?_eq_getElem hk]; rfl
theorem frm_lc {C : Cfg} {e : E} {o : List Nat} {tn : TN} {t : List E} {env : Env} (pk : PlanOk p) (f : Nat × Nat × Nat → Nat)
    (hf : ∀ (j : Nat) (hj : j < p.chans.length) (h3 : VH), Mod no h h3 → Run (xlcF C e o tn t env (.int (j : Nat)) h3) fun r h' => (r = if f p.chans[j] = g then some (.int ((j : Nat) : Int)) else none) ∧ Mod no h3 h') :
    Run (itK (.ws (rangeW 0 (p.chans.length : Int))) (xlcF C e o tn t env) h) fun acc h' => acc = natsW ((List.range p.chans.length).filter fun k => decide (f (p.chans[k]?.getD (0, 0, 0)) = g)) ∧ Mod no h h' := by
  have chl := pk.chl
  refine (lc_filx (List.range p.chans.length) (fun j => W.int ((j : Nat) : Int)) (fun j => if f (p.chans[j]?.getD (0, 0, 0)) = g then some (.int ((j : Nat) : Int)) else none) (by rw [range_nat]; rfl) (by simp; omega) (fun j h3 hj m3 => ?_)).imp ?_
  · have hj := List.mem_range.mp hj
    have ec : p.chans[j]? = some p.chans[j] := List.getElem?_eq_getElem hj
    rw [ec]
    exact hf j hj h3 m3
  · rintro acc h' ⟨rfl, m⟩
    refine ⟨?_, m⟩
    exact filter_mapP (fun j : Nat => W.int ((j : Nat) : Int)) (fun j => f (p.chans[j]?.getD (0, 0, 0)) = g) _
theorem guest_at (pk : PlanOk p) (hg' : g < p.names.length) : ∃ m : Nat, atW (guestL p) ((g : Nat) : Int) = some (.tup [.str (p.nm g), .int (m : Nat)]) := ⟨_, by rw [atW_nat]; exact zip_at pk.lm hg'⟩
theorem c_channels_to (pk : PlanOk p) (hg' : g < p.names.length) : Run (prg.call (n + 1) f_channels_to [planW p, .int (g : Nat)] h) fun r h' => r = .tup (natsW (toOf p g)) ∧ Mod no h h' := by
  refine run_q fun Q q => ?_
  rw [u_channels_to]
  obtain ⟨m, ea⟩ := guest_at pk hg'
  have chl := pk.chl
  have rg := z_rg1 (h := h) (j := (p.chans.length : Int)) (by omega) (by omega)
  simp [b_channels_to, ea, rg]
  refine run_bind (frm_lc (g := g) pk (·.2.1) (fun j hj h3 m3 => ?_)) ?_
  · have hc := pk.ch _ (List.getElem_mem hj)
    have ei : (p.nm p.chans[j].2.1 = p.nm g) ↔ p.chans[j].2.1 = g := ⟨fun z => PlanT.nm_inj pk.nd hc.2.1 hg' z, fun z => by rw [z]⟩
    simp [e_channels_to_1, t_channels_to_1, chan_at hj, chanW, ei]
    refine run_ite (fun c => ?_) (fun c => ?_)
    · simp [c]; exact Mod.rfl
    · simp [c]; exact Mod.rfl
  · rintro _ h2 ⟨rfl, m2⟩
    have fl : (natsW (toOf p g)).length ≤ 16777216 := by unfold natsW; rw [List.length_map]; exact Nat.le_trans (List.length_filter_le _ _) (by simp; omega)
    have e0 : natsW ((List.range p.chans.length).filter fun k => decide ((p.chans[k]?.getD (0, 0, 0)).2.1 = g)) = natsW (toOf p g) := rfl
    rw [e0]
    simp [fl]
    exact q _ _ ⟨rfl, m2.trans Mod.new⟩
theorem nats_at {l : List Nat} {c : Int} (c0 : 0 ≤ c) (hc : c.toNat < l.length) : atW (natsW l) c = some (.int ((nAt l c : Nat) : Int)) := by
  obtain ⟨k, rfl⟩ : ∃ k : Nat, c = k := ⟨c.toNat, by omega⟩
  have hc : k < l.length := hc
  rw [atW_nat]
  unfold natsW nAt
  rw [List.getElem?_map, show ((k : Nat) : Int).toNat = k from rfl, List.getElem?_eq_getElem hc]
  rfl
theorem nats_len (l : List Nat) : (natsW l).length = l.length := by simp [natsW]
theorem nats_map (l : List Nat) : natsW l = (l.map fun k => ((k : Nat) : Int)).map W.int := by unfold natsW; rw [List.map_map]; rfl
theorem nats_in (k : Nat) (l : List Nat) : inO h (.int (k : Nat)) (some (.lst (natsW l))) = some (decide (k ∈ l)) := by
  rw [nats_map, o_inL]
  congr 1
  by_cases c : k ∈ l
  · rw [decide_eq_true c]; exact decide_eq_true (List.mem_map.mpr ⟨k, c, rfl⟩)
  · rw [decide_eq_false c]
    refine decide_eq_false fun z => ?_
    obtain ⟨j, hj, e⟩ := List.mem_map.mp z
    have : j = k := Int.ofNat.inj e
    exact c (this ▸ hj)
theorem nats_flat (l : List Nat) : (natsW l).all flatW = true := by unfold natsW; rw [List.all_map]; exact List.all_eq_true.mpr fun _ _ => rfl
theorem nats_idx {l : List Nat} (nd : l.Nodup) {i k : Nat} (e : l[i]? = some k) : (natsW l).findIdx? (fun y => eqF y (.int (k : Nat))) = some i := by
  have hi := (List.getElem?_eq_some_iff.mp e).1
  rw [List.findIdx?_eq_some_iff_getElem]
  refine ⟨by rw [nats_len]; exact hi, ?_, fun j hj => ?_⟩
  · simp only [natsW, List.getElem_map]
    show (_ == _) = true
    rw [(List.getElem?_eq_some_iff.mp e).2]; simp
  · simp only [natsW, List.getElem_map]
    intro z
    have z : (((l[j]'(by omega) : Nat) : Int) == (k : Int)) = true := z
    have z := Int.ofNat.inj (eq_of_beq z)
    have : l[j]? = l[i]? := by rw [List.getElem?_eq_getElem (by omega), e, z]
    have := (List.getElem?_inj (by omega) nd).mp this
    omega
theorem filt_nodup (p : PlanT) (q : Nat → Bool) : ((List.range p.chans.length).filter q).Nodup := List.Pairwise.filter _ List.nodup_range
theorem filterMap_take' {α : Type} {l : List W} {g : W → Option α} {i : Nat} {w : W} (e : l[i]? = some w) : (l.take (i + 1)).filterMap g = (l.take i).filterMap g ++ (g w).toList := by
  rw [List.take_add_one, List.filterMap_append, e]
  congr 1
theorem setv_ne {env : Env} {i j : Nat} {w : W} (h : i ≠ j) : setv env j w i = env i := by unfold setv; rw [if_neg h]
theorem lc_newsL (l : List W) {r : Nat} {F : W → VH → R (Option W)} (hl : hg h r = some (.lst l)) (hlen : l.length ≤ 16777216) (hf : ∀ w h', F w h' = .ok (some (.ref (nx h' 0))) (hn h' (.lst []))) :
    Run (itK (.live r) F h) fun acc h' => acc = (List.range l.length).map (fun i => .ref (h.length + i)) ∧ h'.length = h.length + l.length ∧ (∀ i, i < l.length → hg h' (h.length + i) = some (.lst [])) ∧ Mod no h h' := by
  refine (lc_inv l (fun k acc h' => acc = (List.range k).map (fun i => .ref (h.length + i)) ∧ h'.length = h.length + k ∧ (∀ i, i < k → hg h' (h.length + i) = some (.lst [])) ∧ Mod no h h') ⟨rfl, rfl, fun i hi => absurd hi (by omega), Mod.rfl⟩ (its := .live r) hlen (fun i acc h' ⟨_, _, _, m⟩ => listAt_of (m.get hl (fun z => z))) (fun k w acc h' hw ⟨e1, e2, e3, e4⟩ => ?_)).imp ?_
  · rw [hf]
    refine ⟨_, _, rfl, ?_, by rw [hn_len, e2]; omega, fun i hi => ?_, e4.trans Mod.new⟩
    · rw [e1, List.range_succ, List.map_append]
      simp [nx, e2]
    · by_cases c : i < k
      · exact (Mod.new (s := no)).get (e3 i c) (fun z => z)
      · have : h.length + i = nx h' 0 := by unfold nx; omega
        rw [this]; exact hg_new'
  · rintro acc h' ⟨q, _⟩
    exact q
end
/-- a list of lists of words in the heap: r the outer, f the inner ones -/
structure WL (L : Nat) (h : VH) (r : Nat) (f : Nat → Nat) (cs : List (List Int)) : Prop where
  hr : hg h r = some (.lst (refsW cs f))
  hc : ∀ i l, cs[i]? = some l → hg h (f i) = some (intsO l)
  inj : ∀ i j, i < cs.length → j < cs.length → f i = f j → i = j
  low : L ≤ r ∧ ∀ i, i < cs.length → L ≤ f i
  nr : ∀ i, i < cs.length → f i ≠ r
section
variable {n : Nat} {L : Nat} {p : PlanT} {h h' : VH} {g r : Nat} {f : Nat → Nat} {cs : List (List Int)}
theorem WL.mno (a : WL L h r f cs) (m : Mod no h h') : WL L h' r f cs := ⟨m.get a.hr (fun z => z), fun i l e => m.get (a.hc i l e) (fun z => z), a.inj, a.low, a.nr⟩
theorem WL.mod {s : Nat → Prop} (a : WL L h r f cs) (m : Mod s h h') (n1 : ¬ s r) (n2 : ∀ i, i < cs.length → ¬ s (f i)) : WL L h' r f cs :=
  ⟨m.get a.hr n1, fun i l e => m.get (a.hc i l e) (n2 i (List.getElem?_eq_some_iff.mp e).1), a.inj, a.low, a.nr⟩
theorem WL.ext (a : WL L h r f cs) {i : Nat} {l : List Int} (hi : i < cs.length) : WL L (hs h (f i) (intsO l)) r f (cs.set i l) := by
  have e : cs[i]? = some cs[i] := List.getElem?_eq_getElem hi
  refine ⟨?_, fun j l' hj => ?_, ?_, ?_, ?_⟩
  · rw [hg_ne (a.nr i hi), a.hr]; unfold refsW; rw [List.length_set]
  · rw [set_at e] at hj
    by_cases c : j = i
    · subst c
      rw [if_pos rfl] at hj; cases hj
      exact hg_hs (by rw [a.hc _ _ e]; rfl)
    · rw [if_neg c] at hj
      have lj := (List.getElem?_eq_some_iff.mp hj).1
      rw [hg_ne (fun z => c (a.inj _ _ lj hi z.symm))]
      exact a.hc _ _ hj
  · rw [List.length_set]; exact a.inj
  · rw [List.length_set]; exact a.low
  · rw [List.length_set]; exact a.nr
theorem WL.news {N base : Nat} {h1 : VH} (len : base + N = h1.length) (new : ∀ i, i < N → hg h1 (base + i) = some (.lst [])) : WL base (hn h1 (.lst ((List.range N).map fun i => .ref (base + i)))) (nx h1 0) (fun i => base + i) (List.replicate N []) := by
  refine ⟨?_, fun i l e => ?_, fun i j _ _ z => by omega, ⟨by unfold nx; omega, fun i _ => by omega⟩, fun i hi => ?_⟩
  · rw [hg_new']; unfold refsW; rw [List.length_replicate]
  · have hi := (List.getElem?_eq_some_iff.mp e).1
    rw [List.length_replicate] at hi
    rw [List.getElem?_replicate, if_pos hi] at e
    cases e
    rw [hg_hn (by rw [new i hi]; rfl), new i hi]; rfl
  · rw [List.length_replicate] at hi; unfold nx; omega
end
end Nw

set_option Elab.async false
set_option linter.all false
set_option maxRecDepth 100000
set_option maxHeartbeats 4000000
/-! k75: what was heard, the program's way. -/
namespace Nw
open PySem PySem.Spec PyProof.Rows L2
/-- one more, unless it is there -/
def addU (k l : List Nat) : List Nat := l.foldl (fun k x => if x ∈ k then k else k ++ [x]) k
def tellOf (p : PlanT) (c : Nat) : Nat := (p.chans[c]?.getD (0, 0, 0)).1
/-- the channel that a deed looks into -/
def askW : W → Option Int
  | .tup [.str s, .int c, .int _] => if s = (S [97, 115, 107]) ∨ s = (S [116, 97, 107, 101]) then some c else none
  | _ => none
def dstep (p : PlanT) (g : Nat) (hs : List (List Nat)) (known : List Nat) (w : W) : List Nat := match askW w with
  | some c => if c.toNat < (toOf p g).length then addU known (chAt hs (tellOf p (nAt (toOf p g) c))) else known
  | none => known
def heardE (p : PlanT) (hs : List (List Nat)) (e : En) : List Nat := e.deeds.foldl (dstep p e.g.toNat hs) (chAt hs e.g.toNat)
def hearS (p : PlanT) (x : List (List Nat) × List (List Nat)) (e : En) : List (List Nat) × List (List Nat) := (x.1 ++ [heardE p x.2 e], x.2.set e.g.toNat (heardE p x.2 e))
def hearA (p : PlanT) (es : List En) : List (List Nat) × List (List Nat) := es.foldl (hearS p) ([], (List.range p.names.length).map fun g => [g])
def sortN (l : List Nat) : List Int := (l.map fun k => ((k : Nat) : Int)).mergeSort (· ≤ ·)
section
variable {n : Nat} {L : Nat} {p : PlanT} {h h' : VH} {g r : Nat} {f : Nat → Nat} {hs0 : List (List Nat)}
theorem addU_in {k l : List Nat} {x : Nat} : x ∈ addU k l ↔ x ∈ k ∨ x ∈ l := by
  unfold addU
  induction l generalizing k with
  | nil => simp
  | cons a l ih =>
    rw [List.foldl_cons, ih]
    by_cases c : a ∈ k
    · rw [if_pos c, List.mem_cons]
      constructor
      · rintro (z | z)
        · exact .inl z
        · exact .inr (.inr z)
      · rintro (z | rfl | z)
        · exact .inl z
        · exact .inl c
        · exact .inr z
    · rw [if_neg c, List.mem_append, List.mem_singleton, List.mem_cons]
      constructor
      · rintro ((z | z) | z)
        · exact .inl z
        · exact .inr (.inl z)
        · exact .inr (.inr z)
      · rintro (z | z | z)
        · exact .inl (.inl z)
        · exact .inl (.inr z)
        · exact .inr z
theorem addU_nd {k l : List Nat} (nd : k.Nodup) : (addU k l).Nodup := by
  unfold addU
  induction l generalizing k with
  | nil => exact nd
  | cons a l ih =>
    rw [List.foldl_cons]
    refine ih ?_
    split
    · exact nd
    · rename_i c
      rw [List.nodup_append]
      exact ⟨nd, by simp, fun x hx y hy => by simp at hy; subst hy; exact fun z => c (z ▸ hx)⟩
/-- a heard list: numbers of guests, each once -/
def HOk (m : Nat) (l : List Nat) : Prop := l.Nodup ∧ ∀ x ∈ l, x < m
theorem HOk.len {m : Nat} {l : List Nat} (h : HOk m l) : l.length ≤ m := by
  have : l ⊆ List.range m := fun x hx => List.mem_range.mpr (h.2 x hx)
  have := List.Nodup.length_le_of_subset h.1 this
  simpa using this
theorem HOk.add {m : Nat} {k l : List Nat} (hk : HOk m k) (hl : HOk m l) : HOk m (addU k l) := ⟨addU_nd hk.1, fun x hx => by
  rcases addU_in.mp hx with z | z
  · exact hk.2 x z
  · exact hl.2 x z⟩
@[simp] theorem x_lcF2 {C : Cfg} {env : Env} (elt : E) (own : List Nat) (i j : Nat) (cs : List E) (a b : W) : xlcF C elt own (.tp [.nm i, .nm j]) cs env (.tup [a, b]) h = (evTs C cs (setv (setv (wipeE env own) i a) j b) h).bind (k_elt C elt (setv (setv (wipeE env own) i a) j b)) := (rfl)
theorem c_names_of (pk : PlanOk p) : Run (prg.call (n + 1) f_names_of [planW p] h) fun r h' => ∃ a, r = .ref a ∧ h.length ≤ a ∧ hg h' a = some (.lst (p.names.map W.str)) ∧ Mod no h h' := by
  refine run_q fun Q q => ?_
  rw [u_names_of]
  have n1 := pk.n1
  have lz : (p.names.zip p.many).length ≤ 16777216 := by rw [List.length_zip]; omega
  simp [b_names_of]
  refine run_bind (lc_mapx (p.names.zip p.many) (fun x => W.tup [.str x.1, .int x.2]) (fun x => W.str x.1) (its := .ws (guestL p)) rfl lz (fun x h5 hx md => ?_)) ?_
  · simp [e_names_of_1]
    exact Mod.rfl
  rintro _ h1 ⟨rfl, m1⟩
  have en : (p.names.zip p.many).map (fun x => W.str x.1) = p.names.map W.str := by
    have : (p.names.zip p.many).map (·.1) = p.names := List.map_fst_zip (by rw [pk.lm]; omega)
    have e2 : (p.names.zip p.many).map (fun x => W.str x.1) = ((p.names.zip p.many).map (·.1)).map W.str := by rw [List.map_map]; rfl
    rw [e2, this]
  rw [en]
  have nl : p.names.length ≤ 16777216 := by omega
  simp [nl]
  exact q _ _ ⟨_, rfl, by have := m1.1; unfold nx; omega, by simp, m1.trans Mod.new⟩
theorem c_teller {c : Nat} (pk : PlanOk p) (hc : c < p.chans.length) : Run (prg.call (n + 2) f_teller [planW p, .int (c : Nat)] h) fun r h' => r = .int ((tellOf p c : Nat) : Int) ∧ Mod no h h' := by
  refine run_q fun Q q => ?_
  rw [u_teller]
  simp [b_teller]
  refine run_bind (c_names_of (n := n) pk) ?_
  rintro _ h1 ⟨a, rfl, la, ha, m1⟩
  have hx := pk.ch _ (List.getElem_mem hc)
  have fa : (p.names.map W.str).all flatW = true := by simp
  have ei := idx_nm pk.nd hx.1
  have et : tellOf p c = p.chans[c].1 := by unfold tellOf; rw [List.getElem?_eq_getElem hc]; rfl
  simp [chan_at hc, chanW, ha, fa, ei]
  exact q _ _ ⟨by rw [et], m1⟩
/-- what a list lacks is put to it -/
theorem add_run {env : Env} {known l : List Nat} {a b m : Nat} (hk : HOk m known) (hl : HOk m l) (m64 : m ≤ 64) (v4 : env 4 = some (.ref a)) (ha : hg h a = some (.lst (natsW known))) (hb : hg h b = some (.lst (natsW l))) (ne : a ≠ b) :
    Run (forK (forF (prg.cfg n) (.nm 7) l_heard_in_2) env (.live b) h) fun q h' => q.1 = .nx ∧ (∀ i, i ≠ 7 → q.2 i = env i) ∧ hg h' a = some (.lst (natsW (addU known l))) ∧ Mod (· = a) h h' := by
  have ll : (natsW l).length = l.length := nats_len l
  refine (for_all (natsW l) (fun k env' h' => (∀ i, i ≠ 7 → env' i = env i) ∧ hg h' a = some (.lst (natsW (addU known (l.take k)))) ∧ Mod (· = a) h h') ⟨fun _ _ => rfl, ha, .rfl⟩ (its := .live b) (fun i env' h' ⟨_, _, m⟩ => listAt_of (m.get hb (fun z => ne z.symm))) (fun k w env' h' hw ⟨we, ha', m'⟩ => ?_)).imp ?_
  · have hk' : k < l.length := by rw [← ll]; exact (List.getElem?_eq_some_iff.mp hw).1
    have e1 : l[k]? = some l[k] := List.getElem?_eq_getElem hk'
    have : w = .int (l[k] : Nat) := by unfold natsW at hw; rw [List.getElem?_map, e1] at hw; exact (Option.some.inj hw).symm
    subst this
    refine run_q fun Q q => ?_
    have w4 : env' 4 = some (.ref a) := (we 4 (by omega)).trans v4
    have es : addU known (l.take (k + 1)) = if l[k] ∈ addU known (l.take k) then addU known (l.take k) else addU known (l.take k) ++ [l[k]] := by
      unfold addU
      rw [List.take_add_one, e1, List.foldl_append]
      rfl
    have hlt : HOk m (l.take k) := ⟨hl.1.sublist (List.take_sublist ..), fun x hx => hl.2 x (List.mem_of_mem_take hx)⟩
    have kl := (hk.add hlt).len
    have kl2 : (addU known (l.take k)).length < 16777216 := by omega
    by_cases c : l[k] ∈ addU known (l.take k)
    · simp [l_heard_in_2, w4, ha', nats_in, c]
      refine q _ _ ⟨rfl, fun i hi => ?_, by rw [es, if_pos c]; exact ha', m'⟩
      show setv env' 7 _ i = env i
      rw [setv_ne hi]; exact we i hi
    · have kl3 : (natsW (addU known (l.take k))).length < 16777216 := by rw [nats_len]; exact kl2
      simp [l_heard_in_2, w4, ha', nats_in, c, kl3, nats_len, kl2]
      refine q _ _ ⟨rfl, fun i hi => ?_, ?_, m'.trans (Mod.set (s := (· = a)) rfl)⟩
      · show setv env' 7 _ i = env i
        rw [setv_ne hi]; exact we i hi
      · rw [es, if_neg c, hg_hs (by rw [ha']; rfl)]
        unfold natsW
        rw [List.map_append]
        rfl
  · rintro ⟨fl, env'⟩ h' ⟨q1, we, ha', m'⟩
    rw [ll, List.take_length] at ha'
    exact ⟨q1, we, ha', m'⟩
def castL (l : List Nat) : List Int := l.map fun k => ((k : Nat) : Int)
theorem cast_int (l : List Nat) : intsO (castL l) = .lst (natsW l) := by unfold intsO castL; rw [nats_map]
/-- what all have heard is good -/
def HsOk (m : Nat) (hs0 : List (List Nat)) : Prop := hs0.length = m ∧ ∀ l ∈ hs0, HOk m l
theorem HsOk.at {m : Nat} (o : HsOk m hs0) (j : Nat) : HOk m (chAt hs0 j) := by
  unfold chAt
  cases e : hs0[j]? with
  | none => exact ⟨List.nodup_nil, by simp⟩
  | some l => exact o.2 l (List.mem_of_getElem? e)
theorem wl_at (a : WL L h r f (hs0.map castL)) {j : Nat} (hj : j < hs0.length) : atW (refsW (hs0.map castL) f) ((j : Nat) : Int) = some (.ref (f j)) ∧ hg h (f j) = some (.lst (natsW (chAt hs0 j))) := by
  have e : hs0[j]? = some hs0[j] := List.getElem?_eq_getElem hj
  refine ⟨by rw [atW_nat, refsW_at (by simpa using hj)], ?_⟩
  have := a.hc j (castL hs0[j]) (by rw [List.getElem?_map, e]; rfl)
  rw [cast_int] at this
  rw [this]
  unfold chAt
  rw [e]; rfl
theorem tell_lt (pk : PlanOk p) {c : Nat} (hc : c < p.chans.length) : tellOf p c < p.names.length := by
  have hx := pk.ch _ (List.getElem_mem hc)
  unfold tellOf; rw [List.getElem?_eq_getElem hc]; exact hx.1
theorem to_lt {c : Int} (hc : c.toNat < (toOf p g).length) : nAt (toOf p g) c < p.chans.length := by
  unfold nAt
  rw [List.getElem?_eq_getElem hc]
  exact List.mem_range.mp (List.mem_filter.mp (List.getElem_mem hc)).1
theorem dstep_ok {m : Nat} {known : List Nat} {w : W} (o : HsOk m hs0) (hk : HOk m known) : HOk m (dstep p g hs0 known w) := by
  unfold dstep
  split
  · split
    · exact hk.add (o.at _)
    · exact hk
  · exact hk
theorem hin_turn {env : Env} {known : List Nat} {a : Nat} {w : W} (pk : PlanOk p) (dd : DD w) (o : HsOk p.names.length hs0) (hk : HOk p.names.length known) (wl : WL L h r f (hs0.map castL)) (ha : hg h a = some (.lst (natsW known))) (n1 : a ≠ r) (n2 : ∀ j, j < hs0.length → a ≠ f j)
    (v0 : env 0 = some (planW p)) (v2 : env 2 = some (.ref r)) (v4 : env 4 = some (.ref a)) (v5 : env 5 = some (.tup (natsW (toOf p g)))) :
    Run (forF (prg.cfg (n + 2)) (.nm 6) l_heard_in_1 w env h) fun q h' => q.1 = .nx ∧ (∀ i, i ≠ 6 → i ≠ 7 → q.2 i = env i) ∧ hg h' a = some (.lst (natsW (dstep p g hs0 known w))) ∧ Mod (· = a) h h' := by
  refine run_q fun Q q => ?_
  have pn := pk.n1
  obtain ⟨d, rfl, dok⟩ := dd
  have non : dstep p g hs0 known (dW d) = known → Q (.nx, setv env 6 (dW d)) h := fun hn => q _ _ ⟨rfl, fun i h6 _ => setv_ne h6, by rw [hn]; exact ha, .rfl⟩
  have look : ∀ (c v : Int) (kind : Str), dW d = .tup [.str kind, .int c, .int v] → askW (dW d) = some c → 0 ≤ c → c.toNat < (toOf p g).length →
      Run (((prg.call (n + 2) f_teller [planW p, .int ((nAt (toOf p g) c : Nat) : Int)] h)) ) (fun x h' => x = .int ((tellOf p (nAt (toOf p g) c) : Nat) : Int) ∧ Mod no h h') := fun c v kind _ _ _ hc => c_teller (n := n) pk (to_lt hc)
  cases d with
  | send c v => 
    have := non rfl
    simp only [dW] at this
    simp [l_heard_in_1, dW]
    exact this
  | time v =>
    have := non rfl
    simp only [dW] at this
    simp [l_heard_in_1, dW]
    exact this
  | rest =>
    have := non rfl
    simp only [dW] at this
    simp [l_heard_in_1, dW]
    exact this
  | ask c v =>
    obtain ⟨c0, c1⟩ : isR c := dok
    by_cases cl : c < ((toOf p g).length : Int)
    · have cl' : c.toNat < (toOf p g).length := by omega
      simp [l_heard_in_1, dW, v0, v2, v5, nats_len, cl, nats_at c0 cl']
      refine run_bind (c_teller (n := n) pk (to_lt cl')) ?_
      rintro _ h1 ⟨rfl, m1⟩
      have hr := m1.get wl.hr (fun z => z)
      have tl := tell_lt pk (to_lt cl')
      have tl2 : tellOf p (nAt (toOf p g) c) < hs0.length := by rw [o.1]; exact tl
      obtain ⟨x1, x2⟩ := wl_at (wl.mno m1) tl2
      have ha1 := m1.get ha (fun z => z)
      simp [hr, x1, z_itl _ x2]
      have da : dstep p g hs0 known (dW (.ask c v)) = addU known (chAt hs0 (tellOf p (nAt (toOf p g) c))) := by show (if c.toNat < _ then _ else _) = _; rw [if_pos cl']
      have ad := add_run (n := n + 2) (env := setv env 6 (dW (.ask c v))) hk (o.at (tellOf p (nAt (toOf p g) c))) (by omega) (by simp [v4]) ha1 x2 (n2 _ tl2)
      simp only [dW] at ad
      refine run_bind ad ?_
      rintro ⟨fl, env'⟩ h2 ⟨rfl, we, ha2, m2⟩
      simp
      refine q _ _ ⟨rfl, fun i h6 h7 => ?_, by rw [da]; exact ha2, (m1.mono fun _ _ z => z.elim).trans m2⟩
      show env' i = env i
      have := we i h7
      rw [show env' i = _ from this]; exact setv_ne h6
    · have cl' : ¬ c.toNat < (toOf p g).length := by omega
      have e9 : dstep p g hs0 known (dW (.ask c v)) = known := by show (if c.toNat < _ then _ else _) = _; rw [if_neg cl']
      have := non e9
      simp only [dW] at this
      simp [l_heard_in_1, dW, v5, nats_len, cl]
      exact this
  | take c v =>
    obtain ⟨c0, c1⟩ : isR c := dok
    by_cases cl : c < ((toOf p g).length : Int)
    · have cl' : c.toNat < (toOf p g).length := by omega
      simp [l_heard_in_1, dW, v0, v2, v5, nats_len, cl, nats_at c0 cl']
      refine run_bind (c_teller (n := n) pk (to_lt cl')) ?_
      rintro _ h1 ⟨rfl, m1⟩
      have hr := m1.get wl.hr (fun z => z)
      have tl := tell_lt pk (to_lt cl')
      have tl2 : tellOf p (nAt (toOf p g) c) < hs0.length := by rw [o.1]; exact tl
      obtain ⟨x1, x2⟩ := wl_at (wl.mno m1) tl2
      have ha1 := m1.get ha (fun z => z)
      simp [hr, x1, z_itl _ x2]
      have da : dstep p g hs0 known (dW (.take c v)) = addU known (chAt hs0 (tellOf p (nAt (toOf p g) c))) := by show (if c.toNat < _ then _ else _) = _; rw [if_pos cl']
      have ad := add_run (n := n + 2) (env := setv env 6 (dW (.take c v))) hk (o.at (tellOf p (nAt (toOf p g) c))) (by omega) (by simp [v4]) ha1 x2 (n2 _ tl2)
      simp only [dW] at ad
      refine run_bind ad ?_
      rintro ⟨fl, env'⟩ h2 ⟨rfl, we, ha2, m2⟩
      simp
      refine q _ _ ⟨rfl, fun i h6 h7 => ?_, by rw [da]; exact ha2, (m1.mono fun _ _ z => z.elim).trans m2⟩
      show env' i = env i
      have := we i h7
      rw [show env' i = _ from this]; exact setv_ne h6
    · have cl' : ¬ c.toNat < (toOf p g).length := by omega
      have e9 : dstep p g hs0 known (dW (.take c v)) = known := by show (if c.toNat < _ then _ else _) = _; rw [if_neg cl']
      have := non e9
      simp only [dW] at this
      simp [l_heard_in_1, dW, v5, nats_len, cl]
      exact this
end
end Nw

set_option Elab.async false
set_option linter.all false
set_option maxRecDepth 100000
set_option maxHeartbeats 4000000
/-! k75: heard. -/
namespace Nw
open PySem PySem.Spec PyProof.Rows L2
section
variable {n : Nat} {L : Nat} {p : PlanT} {h h' : VH} {g r : Nat} {f : Nat → Nat} {hs0 : List (List Nat)}
theorem ints_of (l : List Int) : intsOf (l.map W.int) = some l := by
  induction l with
  | nil => rfl
  | cons a l ih => show (intsOf (l.map W.int)).map (a :: ·) = _; rw [ih]; rfl
theorem z_sorted {a : Nat} {l : List Nat} (ha : hg h a = some (.lst (natsW l))) (hl : l.length < 64) : biW .sorted [.ref a] h = .ok (.ref (nx h 0)) (hn h (.lst ((sortN l).map W.int))) := by
  have e : intsAt h (.ref a) = some (castL l) := by
    show (match listAt h a with | some ws => intsOf ws | none => none) = _
    have : listAt h a = some (natsW l) := listAt_of ha
    rw [this, nats_map]
    exact ints_of _
  show (match intsAt h (.ref a) with | some ns => if ns.length < 64 then new (.lst ((ns.mergeSort (· ≤ ·)).map W.int)) h else .bad | none => .bad) = _
  rw [e]
  have : (castL l).length < 64 := by unfold castL; rw [List.length_map]; exact hl
  show (if (castL l).length < 64 then _ else _) = _
  rw [if_pos this]
  rfl
theorem foldl_take {α β : Type} (F : β → α → β) (b : β) (l : List α) {k : Nat} {x : α} (e : l[k]? = some x) : (l.take (k + 1)).foldl F b = F ((l.take k).foldl F b) x := by
  rw [List.take_add_one, e, List.foldl_append]
  rfl
theorem fold_ok {m : Nat} {ds : List W} {known : List Nat} (o : HsOk m hs0) (hk : HOk m known) : HOk m (ds.foldl (dstep p g hs0) known) := by
  induction ds generalizing known with
  | nil => exact hk
  | cons d ds ih => exact ih (dstep_ok o hk)
theorem c_heard_in {e : En} (pk : PlanOk p) (ok : EnOk p.names.length e) (eg : e.g = (g : Nat)) (hg' : g < p.names.length) (o : HsOk p.names.length hs0) (wl : WL L h r f (hs0.map castL)) :
    Run (prg.call (n + 3) f_heard_in [planW p, enW e, .ref r] h) fun x h' => ∃ a, x = .ref a ∧ h.length ≤ a ∧ hg h' a = some (.lst (natsW (heardE p hs0 e))) ∧ Mod no h h' := by
  refine run_q fun Q q => ?_
  rw [u_heard_in]
  have pn := pk.n1
  have gl : g < hs0.length := by rw [o.1]; exact hg'
  obtain ⟨x1, x2⟩ := wl_at wl gl
  have hr := wl.hr
  have hk := o.at g
  have kl := hk.len
  have k16 : (chAt hs0 g).length ≤ 16777216 := by omega
  have k16' : (natsW (chAt hs0 g)).length ≤ 16777216 := by rw [nats_len]; exact k16
  simp [b_heard_in, enW, eg, hr, x1, x2, k16, k16', nats_len]
  have m1 : Mod no h (hn h (O.lst (natsW (chAt hs0 g)))) := Mod.new
  have a1 : hg (hn h (O.lst (natsW (chAt hs0 g)))) (nx h 0) = some (.lst (natsW (chAt hs0 g))) := hg_new'
  have lr := lt_hg (by rw [hr]; rfl : (hg h r).isSome = true)
  have lf : ∀ j, j < hs0.length → f j < h.length := fun j hj => lt_hg (by rw [(wl_at wl hj).2]; rfl : (hg h (f j)).isSome = true)
  generalize hn h (O.lst (natsW (chAt hs0 g))) = h1 at *
  refine run_bind (c_channels_to (n := n + 1) pk hg') ?_
  rintro _ h2 ⟨rfl, m2⟩
  simp
  have dl := ok.dl
  refine run_bind (for_all e.deeds (fun k env h' => env 0 = some (planW p) ∧ env 2 = some (.ref r) ∧ env 4 = some (.ref (nx h 0)) ∧ env 5 = some (.tup (natsW (toOf p g))) ∧ hg h' (nx h 0) = some (.lst (natsW ((e.deeds.take k).foldl (dstep p g hs0) (chAt hs0 g)))) ∧ Mod no h h')
    ⟨by simp, by simp, by simp, by simp, m2.get a1 (fun z => z), m1.trans m2⟩ (fun _ _ _ _ => rfl) (fun k w env h' hw ⟨v0, v2, v4, v5, ha, m'⟩ => ?_)) ?_
  · have hk2 : HOk p.names.length ((e.deeds.take k).foldl (dstep p g hs0) (chAt hs0 g)) := fold_ok o hk
    refine (hin_turn (n := n) (known := (e.deeds.take k).foldl (dstep p g hs0) (chAt hs0 g)) pk (ok.dd w (List.mem_of_getElem? hw)) o hk2 (wl.mno m') ha (by unfold nx; omega) (fun j hj => by have := lf j hj; unfold nx; omega) v0 v2 v4 v5).imp ?_
    rintro ⟨fl, env'⟩ h'' ⟨q1, we, ha', mm⟩
    have we : ∀ i, i ≠ 6 → i ≠ 7 → env' i = env i := we
    refine ⟨q1, (we 0 (by omega) (by omega)).trans v0, (we 2 (by omega) (by omega)).trans v2, (we 4 (by omega) (by omega)).trans v4, (we 5 (by omega) (by omega)).trans v5, by rw [foldl_take _ _ _ hw]; exact ha', Mod.seq m' mm (fun _ _ z => z) (fun q hq z => by have z : q = nx h 0 := z; unfold nx at z; omega)⟩
  · rintro ⟨fl, env'⟩ h3 ⟨rfl, v0, v2, v4, v5, ha, m'⟩
    rw [List.take_length] at ha
    have v4 : env' 4 = some (.ref (nx h 0)) := v4
    simp [v4]
    refine q _ _ ⟨nx h 0, rfl, by unfold nx; omega, ?_, m'⟩
    have : heardE p hs0 e = e.deeds.foldl (dstep p g hs0) (chAt hs0 g) := by unfold heardE; rw [eg]; rfl
    rw [this]; exact ha
end
end Nw

set_option Elab.async false
set_option linter.all false
set_option maxRecDepth 100000
set_option maxHeartbeats 4000000
/-! k75: heard, whole. -/
namespace Nw
open PySem PySem.Spec PyProof.Rows L2
section
variable {n : Nat} {L : Nat} {p : PlanT} {h h' : VH} {g r : Nat} {f : Nat → Nat} {hs0 : List (List Nat)} {cs : List (List Int)}
/-- lists of one number, all new -/
theorem lc_ones {N : Nat} {F : W → VH → R (Option W)} (hlen : N ≤ 16777216) (hf : ∀ (i : Nat) h', F (.int (i : Nat)) h' = .ok (some (.ref (nx h' 0))) (hn h' (.lst [.int (i : Nat)]))) :
    Run (itK (.ws (rangeW 0 (N : Int))) F h) fun acc h' => acc = (List.range N).map (fun i => .ref (h.length + i)) ∧ h'.length = h.length + N ∧ (∀ i, i < N → hg h' (h.length + i) = some (.lst (natsW [i]))) ∧ Mod no h h' := by
  have hrl : (rangeW 0 (N : Int)).length = N := by rw [range_len]; omega
  refine (lc_inv (rangeW 0 (N : Int)) (fun k acc h' => acc = (List.range k).map (fun i => .ref (h.length + i)) ∧ h'.length = h.length + k ∧ (∀ i, i < k → hg h' (h.length + i) = some (.lst (natsW [i]))) ∧ Mod no h h') ⟨rfl, rfl, fun i hi => absurd hi (by omega), Mod.rfl⟩ (by rw [hrl]; exact hlen) (fun _ _ _ _ => rfl) (fun k w acc h' hw ⟨e1, e2, e3, e4⟩ => ?_)).imp ?_
  · obtain ⟨rfl, lt⟩ := range_at hw
    have ek : (0 : Int) + (k : Int) = ((k : Nat) : Int) := by omega
    rw [ek, hf]
    refine ⟨_, _, rfl, ?_, by rw [hn_len, e2]; omega, fun i hi => ?_, e4.trans Mod.new⟩
    · rw [e1, List.range_succ, List.map_append]
      simp [nx, e2]
    · by_cases c : i < k
      · exact (Mod.new (s := no)).get (e3 i c) (fun z => z)
      · have ei : i = k := by omega
        subst ei
        have : h.length + i = nx h' 0 := by unfold nx; omega
        rw [this]; exact hg_new'
  · rintro acc h' ⟨q, _⟩
    rw [hrl] at q
    exact q
/-- an inner list gets an object that stands elsewhere -/
theorem WL.renew (a : WL L h r f cs) {i : Nat} {l : List Int} {b : Nat} (hi : i < cs.length) (hb : hg h b = some (intsO l)) (nb : b ≠ r) (nf : ∀ j, j < cs.length → f j ≠ b) (lb : L ≤ b) :
    WL L (hs h r (.lst ((refsW cs f).set i (.ref b)))) r (fun j => if j = i then b else f j) (cs.set i l) := by
  have e : cs[i]? = some cs[i] := List.getElem?_eq_getElem hi
  refine ⟨?_, fun j l' hj => ?_, ?_, ?_, ?_⟩
  · rw [hg_hs (by rw [a.hr]; rfl), refsW_set hi (b := l)]
  · rw [set_at e] at hj
    by_cases c : j = i
    · subst c
      rw [if_pos rfl] at hj; cases hj
      simp only [if_true]
      rw [hg_ne (fun z => nb z.symm)]; exact hb
    · rw [if_neg c] at hj
      have lj := (List.getElem?_eq_some_iff.mp hj).1
      simp only [if_neg c]
      rw [hg_ne (fun z => a.nr j lj z.symm)]
      exact a.hc _ _ hj
  · rw [List.length_set]
    intro j k hj hk e2
    by_cases c1 : j = i <;> by_cases c2 : k = i
    · rw [c1, c2]
    · simp only [c1, if_true, if_neg c2] at e2
      exact absurd e2.symm (nf k hk)
    · simp only [c2, if_true, if_neg c1] at e2
      exact absurd e2 (nf j hj)
    · simp only [if_neg c1, if_neg c2] at e2
      exact a.inj j k hj hk e2
  · rw [List.length_set]
    refine ⟨a.low.1, fun j hj => ?_⟩
    show L ≤ if j = i then b else f j
    split
    · exact lb
    · exact a.low.2 j hj
  · rw [List.length_set]
    intro j hj
    show (if j = i then b else f j) ≠ r
    split
    · exact nb
    · exact a.nr j hj
theorem WL.ones {N base : Nat} {h1 : VH} (len : base + N = h1.length) (new : ∀ i, i < N → hg h1 (base + i) = some (.lst (natsW [i]))) : WL base (hn h1 (.lst ((List.range N).map fun i => .ref (base + i)))) (nx h1 0) (fun i => base + i) (((List.range N).map fun g => [g]).map castL) := by
  have ll : (((List.range N).map fun g => [g]).map castL).length = N := by simp
  refine ⟨?_, fun i l e => ?_, fun i j _ _ z => by omega, ⟨by unfold nx; omega, fun i _ => by omega⟩, fun i hi => ?_⟩
  · rw [hg_new']; unfold refsW; rw [ll]
  · have hi := (List.getElem?_eq_some_iff.mp e).1
    rw [ll] at hi
    rw [List.getElem?_map, List.getElem?_map, List.getElem?_range hi] at e
    cases e
    rw [hg_hn (by rw [new i hi]; rfl), new i hi, cast_int]
  · rw [ll] at hi; unfold nx; omega
/-- what is told, and the lists -/
structure HL (p : PlanT) (L : Nat) (h : VH) (rf r : Nat) (f : Nat → Nat) (x : List (List Nat) × List (List Nat)) : Prop where
  w : WL L h r f (x.2.map castL)
  fd : hg h rf = some (.lst (x.1.map fun l => .tup ((sortN l).map W.int)))
  low : L ≤ rf
  ne : rf ≠ r ∧ ∀ i, i < x.2.length → rf ≠ f i
  ok : HsOk p.names.length x.2
theorem hearS_ok {x : List (List Nat) × List (List Nat)} {e : En} (o : HsOk p.names.length x.2) : HsOk p.names.length (hearS p x e).2 := by
  have hk : HOk p.names.length (heardE p x.2 e) := fold_ok o (o.at _)
  refine ⟨by show (List.set _ _ _).length = _; rw [List.length_set]; exact o.1, fun l hl => ?_⟩
  rcases List.mem_or_eq_of_mem_set (show l ∈ List.set _ _ _ from hl) with z | z
  · exact o.2 l z
  · rw [z]; exact hk
theorem heard_turn {env : Env} {e : En} {rf : Nat} {x : List (List Nat) × List (List Nat)} (pk : PlanOk p) (ok : EnOk p.names.length e) (eg : e.g = (g : Nat)) (hg' : g < p.names.length) (a : HL p L h rf r f x) (fl : x.1.length < 16777216) (lh : L ≤ h.length)
    (v0 : env 0 = some (planW p)) (v2 : env 2 = some (.ref r)) (v3 : env 3 = some (.ref rf)) :
    Run (forF (prg.cfg (n + 3)) (.nm 4) l_heard_1 (enW e) env h) fun q h' => q.1 = .nx ∧ q.2 0 = env 0 ∧ q.2 2 = env 2 ∧ q.2 3 = env 3 ∧ ∃ f', HL p L h' rf r f' (hearS p x e) ∧ Mod (Hi L) h h' := by
  refine run_q fun Q q => ?_
  have pn := pk.n1
  have gl : g < x.2.length := by rw [a.ok.1]; exact hg'
  have ch := c_heard_in (n := n) (h := h) pk ok eg hg' a.ok a.w
  have eH : (hearS p x e) = (x.1 ++ [heardE p x.2 e], x.2.set g (heardE p x.2 e)) := by unfold hearS; rw [eg]; rfl
  have hk : HOk p.names.length (heardE p x.2 e) := fold_ok a.ok (a.ok.at _)
  simp only [enW, eg] at ch
  simp [l_heard_1, v0, v2, enW, eg]
  refine run_bind ch ?_
  rintro _ h1 ⟨b, rfl, lb, hb, m1⟩
  have hr1 := m1.get a.w.hr (fun z => z)
  have cl : (x.2.map castL).length = x.2.length := List.length_map ..
  have lr := lt_hg (by rw [a.w.hr]; rfl : (hg h r).isSome = true)
  have lrf := lt_hg (by rw [a.fd]; rfl : (hg h rf).isSome = true)
  have lf : ∀ j, j < x.2.length → f j < h.length := fun j hj => lt_hg (by rw [(wl_at a.w hj).2]; rfl : (hg h (f j)).isSome = true)
  have wl2 := (a.w.mno m1).renew (i := g) (l := castL (heardE p x.2 e)) (b := b) (by rw [cl]; exact gl) (by rw [cast_int]; exact hb) (by omega) (fun j hj => by have := lf j (by rw [← cl]; exact hj); omega) (by omega)
  have gk : g < (refsW (x.2.map castL) f).length := by rw [refsW_len, cl]; exact gl
  simp [v2, hr1, gk]
  have f2 : hg (hs h1 r (.lst ((refsW (x.2.map castL) f).set g (.ref b)))) rf = some (.lst (x.1.map fun l => .tup ((sortN l).map W.int))) := by rw [hg_ne (fun z => a.ne.1 z.symm)]; exact m1.get a.fd (fun z => z)
  have b2 : hg (hs h1 r (.lst ((refsW (x.2.map castL) f).set g (.ref b)))) b = some (.lst (natsW (heardE p x.2 e))) := by rw [hg_ne (by omega)]; exact hb
  have m2 : Mod (Hi L) h1 (hs h1 r (.lst ((refsW (x.2.map castL) f).set g (.ref b)))) := Mod.set a.w.low.1
  have r2 : hg (hs h1 r (.lst ((refsW (x.2.map castL) f).set g (.ref b)))) r = some (.lst ((refsW (x.2.map castL) f).set g (.ref b))) := by rw [hg_hs (by rw [hr1]; rfl)]
  have eg2 : atW ((refsW (x.2.map castL) f).set g (.ref b)) ((g : Nat) : Int) = some (.ref b) := by rw [atW_nat, List.getElem?_set_self gk]
  have kl := hk.len
  have lm1 := m1.1
  have l2 : (hs h1 r (.lst ((refsW (x.2.map castL) f).set g (.ref b)))).length = h1.length := hs_len ..
  generalize hs h1 r (.lst ((refsW (x.2.map castL) f).set g (.ref b))) = h2 at *
  have zs := z_sorted b2 (show (heardE p x.2 e).length < 64 by omega)
  have sl : (sortN (heardE p x.2 e)).length ≤ 16777216 := by unfold sortN; rw [List.length_mergeSort, List.length_map]; omega
  have f3 := (Mod.new (s := no) (o := O.lst ((sortN (heardE p x.2 e)).map W.int))).get f2 (fun z => z)
  simp [v2, v3, f2, r2, eg2, zs, sl, f3, fl]
  refine q _ _ ⟨rfl, by simp, by simp, by simp, fun j => if j = g then b else f j, ?_, ?_⟩
  · rw [eH]
    have e9 : (x.2.set g (heardE p x.2 e)).map castL = (x.2.map castL).set g (castL (heardE p x.2 e)) := List.map_set ..
    have wl3 := (wl2.mno (Mod.new (o := O.lst ((sortN (heardE p x.2 e)).map W.int)))).mod (s := (· = rf)) (Mod.set (s := (· = rf)) rfl (o := .lst ((x.1.map fun l => W.tup ((sortN l).map W.int)) ++ [.tup ((sortN (heardE p x.2 e)).map W.int)]))) (fun z => a.ne.1 z.symm) (fun j hj z => by
      rw [List.length_set, cl] at hj
      have z : (if j = g then b else f j) = rf := z
      split at z
      · omega
      · exact a.ne.2 j hj z.symm)
    have o2 := hearS_ok (e := e) a.ok
    rw [eH] at o2
    refine ⟨by rw [e9]; exact wl3, ?_, a.low, ⟨a.ne.1, fun j hj => ?_⟩, o2⟩
    · rw [hg_hs (by rw [f3]; rfl), List.map_append]; rfl
    · have hj : j < (x.2.set g (heardE p x.2 e)).length := hj
      rw [List.length_set] at hj
      show rf ≠ if j = g then b else f j
      split
      · omega
      · exact a.ne.2 j hj
  · exact ((m1.of_no.trans m2).trans Mod.new).trans (Mod.set a.low)
theorem hearA_s {es : List En} {k : Nat} {e : En} (he : es[k]? = some e) : hearA p (es.take (k + 1)) = hearS p (hearA p (es.take k)) e := by
  unfold hearA
  rw [List.take_add_one, he, List.foldl_append]
  rfl
theorem hearA_fl {es : List En} : ∀ k, (hearA p (es.take k)).1.length ≤ k := fun k => by
  have gen : ∀ (l : List En) (x : List (List Nat) × List (List Nat)), (l.foldl (hearS p) x).1.length = x.1.length + l.length := fun l => by
    induction l with
    | nil => intro x; rfl
    | cons e l ih => intro x; rw [List.foldl_cons, ih]; simp [hearS]; omega
  unfold hearA
  rw [gen]
  simp
  omega
theorem c_heard {es : List En} (pk : PlanOk p) (ok : ∀ e ∈ es, EnOk p.names.length e) (el : es.length ≤ 1000) : Run (prg.call (n + 4) f_heard [planW p, entsW es] h) fun r h' => r = .tup ((hearA p es).1.map fun l => .tup ((sortN l).map W.int)) ∧ Mod no h h' := by
  refine run_q fun Q q => ?_
  rw [u_heard]
  have pn := pk.n1
  have gl : (guestL p).length = p.names.length := by unfold guestL; rw [List.length_map, List.length_zip, pk.lm]; omega
  have rg := z_rg1 (h := h) (j := (p.names.length : Int)) (by omega) (by omega)
  simp [b_heard, gl, rg]
  refine run_bind (lc_ones (h := h) (N := p.names.length) (by omega) (fun i h' => by simp [e_heard_1])) ?_
  rintro _ h1 ⟨rfl, len1, new1, m1⟩
  have nl : p.names.length ≤ 16777216 := by omega
  simp [nl, entsW]
  have wl := (WL.ones len1.symm new1).mno (Mod.new (o := O.lst []))
  have f0 : hg (hn (hn h1 (O.lst ((List.range p.names.length).map fun i => W.ref (h.length + i)))) (O.lst [])) (nx h1 1) = some (.lst []) := by simp
  have m2 : Mod no h (hn (hn h1 (O.lst ((List.range p.names.length).map fun i => W.ref (h.length + i)))) (O.lst [])) := (m1.trans Mod.new).trans Mod.new
  generalize hn (hn h1 (O.lst ((List.range p.names.length).map fun i => W.ref (h.length + i)))) (O.lst []) = h2 at *
  have o0 : HsOk p.names.length ((List.range p.names.length).map fun g => [g]) := ⟨by simp, fun l hl => by
    obtain ⟨i, hi, rfl⟩ := List.mem_map.mp hl
    exact ⟨by simp, fun x hx => by simp at hx; subst hx; exact List.mem_range.mp hi⟩⟩
  have c0 : HL p h.length h2 (nx h1 1) (nx h1 0) (fun i => h.length + i) (hearA p (es.take 0)) := ⟨wl, f0, by unfold nx; omega, ⟨by unfold nx; omega, fun i hi => by
    have hi : i < ((List.range p.names.length).map fun g => [g]).length := hi
    simp at hi
    unfold nx; omega⟩, o0⟩
  have lml : (es.map enW).length = es.length := List.length_map ..
  refine run_bind (for_all (es.map enW) (fun k env h' => env 0 = some (planW p) ∧ env 2 = some (.ref (nx h1 0)) ∧ env 3 = some (.ref (nx h1 1)) ∧ ∃ f, HL p h.length h' (nx h1 1) (nx h1 0) f (hearA p (es.take k)) ∧ Mod no h h')
    ⟨by simp, by simp, by simp, _, c0, m2⟩ (fun _ _ _ _ => rfl) (fun k w env h' hw ⟨v0, v2, v3, f, a, m'⟩ => ?_)) ?_
  · rw [List.getElem?_map] at hw
    cases he : es[k]? with
    | none => rw [he] at hw; cases hw
    | some e =>
      rw [he] at hw
      cases hw
      have hk := (List.getElem?_eq_some_iff.mp he).1
      have eo := ok e (List.mem_of_getElem? he)
      obtain ⟨ge, eg, hge⟩ := eo.g
      have i3 := hearA_fl (p := p) (es := es) k
      refine (heard_turn (n := n) pk eo eg hge a (by omega) m'.1 v0 v2 v3).imp ?_
      rintro ⟨fl, env'⟩ h'' ⟨q1, w0, w2, w3, f', a', mm⟩
      rw [← hearA_s he] at a'
      exact ⟨q1, w0.trans v0, w2.trans v2, w3.trans v3, f', a', Mod.seq m' mm (fun _ _ z => z) (fun q hq z => by have z : h.length ≤ q := z; omega)⟩
  · rintro ⟨fl, env'⟩ h4 ⟨rfl, v0, v2, v3, f, a, m'⟩
    rw [lml, List.take_length] at a
    have v3 : env' 3 = some (.ref (nx h1 1)) := v3
    have fd := a.fd
    have il := hearA_fl (p := p) (es := es) es.length
    rw [List.take_length] at il
    have fl : (hearA p es).1.length ≤ 16777216 := by omega
    simp [v3, fd, fl]
    exact q _ _ ⟨rfl, m'⟩
end
end Nw

set_option Elab.async false
set_option linter.all false
set_option maxRecDepth 100000
set_option maxHeartbeats 4000000
/-! k75: heard, the law's way. -/
namespace Nw
open PySem PySem.Spec PyProof.Rows L2
section
variable {n : Nat} {L : Nat} {p : PlanT} {h h' : VH} {g r : Nat} {f : Nat → Nat} {hs0 : List (List Nat)}
/-- the tellers' names of a guest's channels -/
def namesT (p : PlanT) (g : Nat) : List W := (toOf p g).map fun k => .str (p.nm (tellOf p k))
theorem own_lc {env : Env} {own : List Nat} {r2 : Nat} (ho : own = [11]) (pk : PlanOk p) (hg' : g < p.names.length) (v2 : env 2 = some (.ref r2)) (v6 : env 6 = some (.int (g : Nat))) (h2 : hg h r2 = some (.lst (p.names.map W.str))) :
    Run (itK (.ws (p.chans.map (chanW p))) (xlcF (prg.cfg n) e_law_heard_3 own (.nm 11) t_law_heard_3 env) h) fun acc h' => acc = namesT p g ∧ Mod no h h' := by
  subst ho
  have chl := pk.chl
  have e1 : p.chans.map (chanW p) = (List.range p.chans.length).map fun j => chanW p (p.chans[j]?.getD (0, 0, 0)) := by
    apply List.ext_getElem?
    intro i
    rw [List.getElem?_map, List.getElem?_map]
    by_cases c : i < p.chans.length
    · rw [List.getElem?_range c, List.getElem?_eq_getElem c]
      simp [List.getElem?_eq_getElem c]
    · rw [List.getElem?_eq_none (by omega), List.getElem?_eq_none (by simp; omega)]; rfl
  rw [e1]
  refine (lc_filx (List.range p.chans.length) (fun j => chanW p (p.chans[j]?.getD (0, 0, 0))) (fun j => if (p.chans[j]?.getD (0, 0, 0)).2.1 = g then some (.str (p.nm (tellOf p j))) else none) rfl (by simp; omega) (fun j h3 hj m3 => ?_)).imp ?_
  · have hj := List.mem_range.mp hj
    have ec : p.chans[j]? = some p.chans[j] := List.getElem?_eq_getElem hj
    have hc := pk.ch _ (List.getElem_mem hj)
    have ei : (p.nm p.chans[j].2.1 = p.nm g) ↔ p.chans[j].2.1 = g := ⟨fun z => PlanT.nm_inj pk.nd hc.2.1 hg' z, fun z => by rw [z]⟩
    have k2 := m3.get h2 (fun z => z)
    have en : atW (p.names.map W.str) ((g : Nat) : Int) = some (.str (p.nm g)) := by rw [atW_nat, List.getElem?_map, p.nm_of hg']; rfl
    unfold tellOf
    rw [ec]
    simp [e_law_heard_3, t_law_heard_3, chanW, v2, v6, k2, en, ei]
    refine run_ite (fun c => ?_) (fun c => ?_)
    · simp [c]; exact Mod.rfl
    · simp [c]; exact Mod.rfl
  · rintro acc h' ⟨rfl, m⟩
    refine ⟨?_, m⟩
    exact filter_mapP (fun j : Nat => W.str (p.nm (tellOf p j))) (fun j => (p.chans[j]?.getD (0, 0, 0)).2.1 = g) _
/-- what a guest's list lacks is put to it, in its place -/
theorem ladd_run {env : Env} {known l : List Nat} {b m : Nat} {cs : List (List Int)} (hk : HOk m known) (hl : HOk m l) (m64 : m ≤ 64) (v3 : env 3 = some (.ref r)) (v6 : env 6 = some (.int (g : Nat))) (hr : hg h r = some (.lst (refsW cs f))) (gl : g < cs.length) (nr : f g ≠ r) (ha : hg h (f g) = some (.lst (natsW known))) (hb : hg h b = some (.lst (natsW l))) (ne : f g ≠ b) :
    Run (forK (forF (prg.cfg n) (.nm 9) l_law_heard_3) env (.live b) h) fun q h' => q.1 = .nx ∧ (∀ i, i ≠ 9 → q.2 i = env i) ∧ hg h' (f g) = some (.lst (natsW (addU known l))) ∧ Mod (· = f g) h h' := by
  have ll : (natsW l).length = l.length := nats_len l
  have eg : atW (refsW cs f) ((g : Nat) : Int) = some (.ref (f g)) := by rw [atW_nat, refsW_at gl]
  refine (for_all (natsW l) (fun k env' h' => (∀ i, i ≠ 9 → env' i = env i) ∧ hg h' (f g) = some (.lst (natsW (addU known (l.take k)))) ∧ Mod (· = f g) h h') ⟨fun _ _ => rfl, ha, .rfl⟩ (its := .live b) (fun i env' h' ⟨_, _, m⟩ => listAt_of (m.get hb (fun z => ne z.symm))) (fun k w env' h' hw ⟨we, ha', m'⟩ => ?_)).imp ?_
  · have hk' : k < l.length := by rw [← ll]; exact (List.getElem?_eq_some_iff.mp hw).1
    have e1 : l[k]? = some l[k] := List.getElem?_eq_getElem hk'
    have : w = .int (l[k] : Nat) := by unfold natsW at hw; rw [List.getElem?_map, e1] at hw; exact (Option.some.inj hw).symm
    subst this
    refine run_q fun Q q => ?_
    have w3 : env' 3 = some (.ref r) := (we 3 (by omega)).trans v3
    have w6 : env' 6 = some (.int (g : Nat)) := (we 6 (by omega)).trans v6
    have hr' := m'.get hr (fun z => nr z.symm)
    have es : addU known (l.take (k + 1)) = if l[k] ∈ addU known (l.take k) then addU known (l.take k) else addU known (l.take k) ++ [l[k]] := by
      unfold addU
      rw [List.take_add_one, e1, List.foldl_append]
      rfl
    have hlt : HOk m (l.take k) := ⟨hl.1.sublist (List.take_sublist ..), fun x hx => hl.2 x (List.mem_of_mem_take hx)⟩
    have kl := (hk.add hlt).len
    have kl2 : (addU known (l.take k)).length < 16777216 := by omega
    by_cases c : l[k] ∈ addU known (l.take k)
    · simp [l_law_heard_3, w3, w6, hr', eg, ha', nats_in, c]
      refine q _ _ ⟨rfl, fun i hi => ?_, by rw [es, if_pos c]; exact ha', m'⟩
      show setv env' 9 _ i = env i
      rw [setv_ne hi]; exact we i hi
    · have kl3 : (natsW (addU known (l.take k))).length < 16777216 := by rw [nats_len]; exact kl2
      simp [l_law_heard_3, w3, w6, hr', eg, ha', nats_in, c, kl3, nats_len, kl2]
      refine q _ _ ⟨rfl, fun i hi => ?_, ?_, m'.trans (Mod.set (s := (· = f g)) rfl)⟩
      · show setv env' 9 _ i = env i
        rw [setv_ne hi]; exact we i hi
      · rw [es, if_neg c, hg_hs (by rw [ha']; rfl)]
        unfold natsW
        rw [List.map_append]
        rfl
  · rintro ⟨fl, env'⟩ h' ⟨q1, we, ha', m'⟩
    rw [ll, List.take_length] at ha'
    exact ⟨q1, we, ha', m'⟩
end
end Nw

set_option Elab.async false
set_option linter.all false
set_option maxRecDepth 100000
set_option maxHeartbeats 4000000
/-! k75: heard, the law's way: an entry. -/
namespace Nw
open PySem PySem.Spec PyProof.Rows L2
section
variable {n : Nat} {L : Nat} {p : PlanT} {h h' : VH} {g r : Nat} {f : Nat → Nat} {hs0 : List (List Nat)} {cs : List (List Int)}
theorem WL.upd (a : WL L h r f cs) {i : Nat} {l : List Int} (hi : i < cs.length) (md : Mod (· = f i) h h') (hl : hg h' (f i) = some (intsO l)) : WL L h' r f (cs.set i l) := by
  have e : cs[i]? = some cs[i] := List.getElem?_eq_getElem hi
  refine ⟨?_, fun j l' hj => ?_, by rw [List.length_set]; exact a.inj, by rw [List.length_set]; exact a.low, by rw [List.length_set]; exact a.nr⟩
  · have : refsW (cs.set i l) f = refsW cs f := by unfold refsW; rw [List.length_set]
    rw [this]
    exact md.get a.hr (fun z => a.nr i hi z.symm)
  · rw [set_at e] at hj
    by_cases c : j = i
    · subst c
      rw [if_pos rfl] at hj; cases hj
      exact hl
    · rw [if_neg c] at hj
      have lj := (List.getElem?_eq_some_iff.mp hj).1
      exact md.get (a.hc _ _ hj) (fun z => c (a.inj _ _ lj hi z))
theorem set_set_map (hs0 : List (List Nat)) (g : Nat) (a b : List Nat) : (((hs0.set g a).map castL).set g (castL b)) = (hs0.set g b).map castL := by
  rw [← List.map_set, List.set_set]
theorem ldeed_turn {env : Env} {known : List Nat} {r2 r7 : Nat} {w : W} (pk : PlanOk p) (dd : DD w) (o : HsOk p.names.length hs0) (hk : HOk p.names.length known) (hg' : g < p.names.length) (wl : WL L h r f ((hs0.set g known).map castL))
    (h2 : hg h r2 = some (.lst (p.names.map W.str))) (h7 : hg h r7 = some (.lst (namesT p g)))
    (v2 : env 2 = some (.ref r2)) (v3 : env 3 = some (.ref r)) (v6 : env 6 = some (.int (g : Nat))) (v7 : env 7 = some (.ref r7)) :
    Run (forF (prg.cfg n) (.nm 8) l_law_heard_2 w env h) fun q h' => q.1 = .nx ∧ (∀ i, i ≠ 8 → i ≠ 9 → q.2 i = env i) ∧ WL L h' r f ((hs0.set g (dstep p g hs0 known w)).map castL) ∧ Mod (· = f g) h h' := by
  refine run_q fun Q q => ?_
  have pn := pk.n1
  obtain ⟨d, rfl, dok⟩ := dd
  have gl : g < hs0.length := by rw [o.1]; exact hg'
  have gl2 : g < ((hs0.set g known).map castL).length := by rw [List.length_map, List.length_set]; exact gl
  have non : dstep p g hs0 known (dW d) = known → Q (.nx, setv env 8 (dW d)) h := fun hn => q _ _ ⟨rfl, fun i h8 _ => setv_ne h8, by rw [hn]; exact wl, .rfl⟩
  have nl : (namesT p g).length = (toOf p g).length := by simp [namesT]
  have fa : (p.names.map W.str).all flatW = true := by simp
  have look : ∀ (c : Int), 0 ≤ c → c.toNat < (toOf p g).length → atW (namesT p g) c = some (.str (p.nm (tellOf p (nAt (toOf p g) c)))) ∧ tellOf p (nAt (toOf p g) c) < p.names.length ∧ tellOf p (nAt (toOf p g) c) ≠ g := fun c c0 hc => by
    have ek : (toOf p g)[c.toNat]? = some ((toOf p g)[c.toNat]'hc) := List.getElem?_eq_getElem hc
    have en : nAt (toOf p g) c = (toOf p g)[c.toNat]'hc := by unfold nAt; rw [ek]; rfl
    refine ⟨?_, tell_lt pk (to_lt hc), ?_⟩
    · rw [atW_pos c0]
      unfold namesT
      rw [List.getElem?_map, ek, en]; rfl
    · have hm := List.mem_filter.mp (List.getElem_mem hc)
      have kl := List.mem_range.mp hm.1
      have b2 := of_decide_eq_true hm.2
      rw [en]
      unfold tellOf
      rw [List.getElem?_eq_getElem kl] at b2 ⊢
      intro z
      exact (pk.ch _ (List.getElem_mem kl)).2.2.1 (z.trans b2.symm)
  have fin : ∀ (c : Int) (h1 : VH) (env1 : Env), c.toNat < (toOf p g).length → (∀ i, i ≠ 8 → i ≠ 9 → env1 i = env i) → hg h1 (f g) = some (.lst (natsW (addU known (chAt hs0 (tellOf p (nAt (toOf p g) c)))))) → Mod (· = f g) h h1 → askW (dW d) = some c → Q (.nx, env1) h1 := fun c h1 env1 hc we hx m1 ha => by
    have da : dstep p g hs0 known (dW d) = addU known (chAt hs0 (tellOf p (nAt (toOf p g) c))) := by
      unfold dstep
      rw [ha]
      simp only
      rw [if_pos hc]
    have up := wl.upd (l := castL (dstep p g hs0 known (dW d))) gl2 m1 (by rw [cast_int, da]; exact hx)
    rw [set_set_map] at up
    exact q _ _ ⟨rfl, we, up, m1⟩
  have tl : ∀ t, t < p.names.length → t ≠ g → atW (refsW ((hs0.set g known).map castL) f) ((t : Nat) : Int) = some (.ref (f t)) ∧ hg h (f t) = some (.lst (natsW (chAt hs0 t))) ∧ f g ≠ f t := fun t ht hne => by
    have t1 : t < hs0.length := by rw [o.1]; exact ht
    have t2 : t < (hs0.set g known).length := by rw [List.length_set]; exact t1
    obtain ⟨x1, x2⟩ := wl_at wl t2
    have : chAt (hs0.set g known) t = chAt hs0 t := by unfold chAt; rw [List.getElem?_set_ne (fun z => hne z.symm)]
    rw [this] at x2
    exact ⟨x1, x2, fun z => hne (wl.inj _ _ gl2 (by rw [List.length_map]; exact t2) z).symm⟩
  have hr := wl.hr
  have hfg : hg h (f g) = some (.lst (natsW known)) := by
    have := (wl_at wl (j := g) (by rw [List.length_set]; exact gl)).2
    unfold chAt at this
    rw [List.getElem?_set_self gl] at this
    exact this
  generalize (hs0.set g known).map castL = cs at *
  cases d with
  | send c v | time v | rest =>
    have := non rfl
    simp only [dW] at this
    simp [l_law_heard_2, dW]
    exact this
  | ask c v =>
    obtain ⟨c0, c1⟩ : isR c := dok
    by_cases cl : c < ((toOf p g).length : Int)
    · have cl' : c.toNat < (toOf p g).length := by omega
      obtain ⟨k1, k2, k3⟩ := look c c0 cl'
      obtain ⟨t1, t2, t3⟩ := tl _ k2 k3
      have fx := idx_nm pk.nd k2
      simp [l_law_heard_2, dW, v2, v3, v7, h7, nl, cl, k1, h2, fa, fx, hr, t1, z_itl _ t2]
      have ad := ladd_run (n := n) (env := setv env 8 (dW (.ask c v))) hk (o.at (tellOf p (nAt (toOf p g) c))) (by omega) (by simp [v3]) (by simp [v6]) hr gl2 (wl.nr g gl2) hfg t2 t3
      simp only [dW] at ad
      refine run_bind ad ?_
      rintro ⟨fl, env'⟩ h3 ⟨rfl, we, hx, m3⟩
      simp
      exact fin c h3 env' cl' (fun i h8 h9 => (we i h9).trans (setv_ne h8)) hx m3 rfl
    · have cl' : ¬ c.toNat < (toOf p g).length := by omega
      have e9 : dstep p g hs0 known (dW (.ask c v)) = known := by show (if c.toNat < _ then _ else _) = _; rw [if_neg cl']
      have := non e9
      simp only [dW] at this
      simp [l_law_heard_2, dW, v7, h7, nl, cl]
      exact this
  | take c v =>
    obtain ⟨c0, c1⟩ : isR c := dok
    by_cases cl : c < ((toOf p g).length : Int)
    · have cl' : c.toNat < (toOf p g).length := by omega
      obtain ⟨k1, k2, k3⟩ := look c c0 cl'
      obtain ⟨t1, t2, t3⟩ := tl _ k2 k3
      have fx := idx_nm pk.nd k2
      simp [l_law_heard_2, dW, v2, v3, v7, h7, nl, cl, k1, h2, fa, fx, hr, t1, z_itl _ t2]
      have ad := ladd_run (n := n) (env := setv env 8 (dW (.take c v))) hk (o.at (tellOf p (nAt (toOf p g) c))) (by omega) (by simp [v3]) (by simp [v6]) hr gl2 (wl.nr g gl2) hfg t2 t3
      simp only [dW] at ad
      refine run_bind ad ?_
      rintro ⟨fl, env'⟩ h3 ⟨rfl, we, hx, m3⟩
      simp
      exact fin c h3 env' cl' (fun i h8 h9 => (we i h9).trans (setv_ne h8)) hx m3 rfl
    · have cl' : ¬ c.toNat < (toOf p g).length := by omega
      have e9 : dstep p g hs0 known (dW (.take c v)) = known := by show (if c.toNat < _ then _ else _) = _; rw [if_neg cl']
      have := non e9
      simp only [dW] at this
      simp [l_law_heard_2, dW, v7, h7, nl, cl]
      exact this
end
end Nw

set_option Elab.async false
set_option linter.all false
set_option maxRecDepth 100000
set_option maxHeartbeats 4000000
/-! k75: heard, the law's way: whole. -/
namespace Nw
open PySem PySem.Spec PyProof.Rows L2
section
variable {n : Nat} {L : Nat} {p : PlanT} {h h' : VH} {g r : Nat} {f : Nat → Nat} {hs0 : List (List Nat)} {cs : List (List Int)}
theorem set_same {x : List (List Nat)} {g : Nat} (hg' : g < x.length) : x.set g (chAt x g) = x := by
  apply List.ext_getElem?
  intro i
  have e : x[g]? = some x[g] := List.getElem?_eq_getElem hg'
  rw [set_at e]
  by_cases c : i = g
  · subst c; rw [if_pos rfl]; unfold chAt; rw [e]; rfl
  · rw [if_neg c]
theorem lheard_turn {env : Env} {e : En} {rf r2 : Nat} {x : List (List Nat) × List (List Nat)} (pk : PlanOk p) (ok : EnOk p.names.length e) (eg : e.g = (g : Nat)) (hg' : g < p.names.length) (a : HL p L h rf r f x) (fl : x.1.length < 16777216) (lh : L ≤ h.length)
    (h2 : hg h r2 = some (.lst (p.names.map W.str))) (n2 : r2 ≠ rf ∧ ∀ i, i < x.2.length → r2 ≠ f i)
    (v0 : env 0 = some (planW p)) (v2 : env 2 = some (.ref r2)) (v3 : env 3 = some (.ref r)) (v4 : env 4 = some (.ref rf)) :
    Run (forF (prg.cfg n) (.nm 5) l_law_heard_1 (enW e) env h) fun q h' => q.1 = .nx ∧ q.2 0 = env 0 ∧ q.2 2 = env 2 ∧ q.2 3 = env 3 ∧ q.2 4 = env 4 ∧ HL p L h' rf r f (hearS p x e) ∧ hg h' r2 = some (.lst (p.names.map W.str)) ∧ Mod (Hi L) h h' := by
  refine run_q fun Q q => ?_
  have pn := pk.n1
  have chl := pk.chl
  have gl : g < x.2.length := by rw [a.ok.1]; exact hg'
  have eH : (hearS p x e) = (x.1 ++ [heardE p x.2 e], x.2.set g (heardE p x.2 e)) := by unfold hearS; rw [eg]; rfl
  have hk : HOk p.names.length (heardE p x.2 e) := fold_ok a.ok (a.ok.at _)
  have hE : heardE p x.2 e = e.deeds.foldl (dstep p g x.2) (chAt x.2 g) := by unfold heardE; rw [eg]; rfl
  simp [l_law_heard_1, v0, v2, enW, eg]
  refine run_bind (own_lc (n := n) (r2 := r2) rfl pk hg' (by simp [v2]) (by simp) h2) ?_
  rintro _ h1 ⟨rfl, m1⟩
  have nl : (namesT p g).length ≤ 16777216 := by unfold namesT; rw [List.length_map]; exact Nat.le_trans (List.length_filter_le _ _) (by simp; omega)
  simp [nl]
  have m3 : Mod no h (hn h1 (O.lst (namesT p g))) := m1.trans Mod.new
  have h7 : hg (hn h1 (O.lst (namesT p g))) (nx h1 0) = some (.lst (namesT p g)) := hg_new'
  have lm1 := m1.1
  have lf : ∀ j, j < x.2.length → f j < h.length := fun j hj => lt_hg (by rw [(wl_at a.w hj).2]; rfl : (hg h (f j)).isSome = true)
  have wl0 : WL L (hn h1 (O.lst (namesT p g))) r f ((x.2.set g (chAt x.2 g)).map castL) := by rw [set_same gl]; exact a.w.mno m3
  have h23 := m3.get h2 (fun z => z)
  have fd3 := m3.get a.fd (fun z => z)
  generalize hn h1 (O.lst (namesT p g)) = h3 at *
  have dl := ok.dl
  refine run_bind (for_all e.deeds (fun k env' h' => env' 0 = env 0 ∧ env' 2 = env 2 ∧ env' 3 = env 3 ∧ env' 4 = env 4 ∧ env' 6 = some (.int (g : Nat)) ∧ env' 7 = some (.ref (nx h1 0)) ∧ WL L h' r f ((x.2.set g ((e.deeds.take k).foldl (dstep p g x.2) (chAt x.2 g))).map castL) ∧ Mod (· = f g) h3 h')
    ⟨by simp, by simp, by simp, by simp, by simp, by simp, wl0, .rfl⟩ (fun _ _ _ _ => rfl) (fun k w env' h' hw ⟨w0, w2, w3, w4, w6, w7, wl, m'⟩ => ?_)) ?_
  · refine (ldeed_turn (n := n) (g := g) (r2 := r2) (r7 := nx h1 0) pk (ok.dd w (List.mem_of_getElem? hw)) a.ok (fold_ok a.ok (a.ok.at g)) hg' wl (m'.get h23 (fun z => n2.2 g gl z)) (m'.get h7 (fun z => by have := lf g gl; have z : nx h1 0 = f g := z; unfold nx at z; omega)) (w2.trans v2) (w3.trans v3) w6 w7).imp ?_
    rintro ⟨fl', env2⟩ h'' ⟨q1, we, wl', mm⟩
    have we : ∀ i, i ≠ 8 → i ≠ 9 → env2 i = env' i := we
    exact ⟨q1, (we 0 (by omega) (by omega)).trans w0, (we 2 (by omega) (by omega)).trans w2, (we 3 (by omega) (by omega)).trans w3, (we 4 (by omega) (by omega)).trans w4, (we 6 (by omega) (by omega)).trans w6, (we 7 (by omega) (by omega)).trans w7, by rw [foldl_take _ _ _ hw]; exact wl', m'.trans mm⟩
  rintro ⟨fl', env2⟩ h4 ⟨rfl, w0, w2, w3, w4, w6, w7, wl, m4⟩
  rw [List.take_length, ← hE] at wl
  have w3 : env2 3 = some (.ref r) := w3.trans v3
  have w4' : env2 4 = some (.ref rf) := w4.trans v4
  have w6 : env2 6 = some (.int (g : Nat)) := w6
  have f4 := m4.get fd3 (fun z => a.ne.2 g gl z)
  have gs : g < (x.2.set g (heardE p x.2 e)).length := by rw [List.length_set]; exact gl
  obtain ⟨t1, t2⟩ := wl_at wl gs
  have tg : chAt (x.2.set g (heardE p x.2 e)) g = heardE p x.2 e := by unfold chAt; rw [List.getElem?_set_self gl]; rfl
  rw [tg] at t2
  have kl := hk.len
  have zs := z_sorted t2 (show (heardE p x.2 e).length < 64 by omega)
  have sl : (sortN (heardE p x.2 e)).length ≤ 16777216 := by unfold sortN; rw [List.length_mergeSort, List.length_map]; omega
  have f5 := (Mod.new (s := no) (o := O.lst ((sortN (heardE p x.2 e)).map W.int))).get f4 (fun z => z)
  have hr4 := wl.hr
  have h24 := m4.get h23 (fun z => n2.2 g gl z)
  have ml : Mod (Hi L) h h4 := (m3.mono fun _ _ z => z.elim).trans (m4.mono fun q _ z => by have z : q = f g := z; rw [z]; exact a.w.low.2 g (by rw [List.length_map]; exact gl))
  have o2 := hearS_ok (e := e) a.ok
  rw [eH] at o2
  have wl3 := (wl.mno (Mod.new (o := O.lst ((sortN (heardE p x.2 e)).map W.int)))).mod (s := (· = rf)) (Mod.set (s := (· = rf)) rfl (o := .lst ((x.1.map fun l => W.tup ((sortN l).map W.int)) ++ [.tup ((sortN (heardE p x.2 e)).map W.int)]))) (fun z => a.ne.1 z.symm) (fun j hj z => by
      rw [List.length_map, List.length_set] at hj
      exact a.ne.2 j hj z.symm)
  have fin : HL p L (hs (hn h4 (O.lst ((sortN (heardE p x.2 e)).map W.int))) rf (.lst ((x.1.map fun l => W.tup ((sortN l).map W.int)) ++ [.tup ((sortN (heardE p x.2 e)).map W.int)]))) rf r f (hearS p x e) := by
    rw [eH]
    refine ⟨wl3, ?_, a.low, ⟨a.ne.1, fun j hj => a.ne.2 j (by rw [List.length_set] at hj; exact hj)⟩, o2⟩
    rw [hg_hs (by rw [f5]; rfl), List.map_append]; rfl
  have h25 : hg (hs (hn h4 (O.lst ((sortN (heardE p x.2 e)).map W.int))) rf (.lst ((x.1.map fun l => W.tup ((sortN l).map W.int)) ++ [.tup ((sortN (heardE p x.2 e)).map W.int)]))) r2 = some (.lst (p.names.map W.str)) := by
    rw [hg_ne (fun z => n2.1 z.symm)]
    exact (Mod.new (s := no)).get h24 (fun z => z)
  generalize (x.2.set g (heardE p x.2 e)).map castL = cs4 at *
  simp [w3, w4', w6, f4, hr4, t1, zs, sl, f5, fl]
  exact q _ _ ⟨rfl, w0, w2, w3.trans v3.symm, w4, fin, h25, (ml.trans Mod.new).trans (Mod.set a.low)⟩
theorem c_law_heard {es : List En} (pk : PlanOk p) (ok : ∀ e ∈ es, EnOk p.names.length e) (el : es.length ≤ 1000) : Run (prg.call (n + 1) f_law_heard [planW p, entsW es] h) fun r h' => r = .tup ((hearA p es).1.map fun l => .tup ((sortN l).map W.int)) ∧ Mod no h h' := by
  refine run_q fun Q q => ?_
  rw [u_law_heard]
  have pn := pk.n1
  have lz : (p.names.zip p.many).length ≤ 16777216 := by rw [List.length_zip]; omega
  simp [b_law_heard]
  refine run_bind (lc_mapx (p.names.zip p.many) (fun x => W.tup [.str x.1, .int x.2]) (fun x => W.str x.1) (its := .ws (guestL p)) rfl lz (fun x h5 hx md => ?_)) ?_
  · simp [e_law_heard_1]
    exact Mod.rfl
  rintro _ h1 ⟨rfl, m1⟩
  have en : (p.names.zip p.many).map (fun x => W.str x.1) = p.names.map W.str := by
    have : (p.names.zip p.many).map (·.1) = p.names := List.map_fst_zip (by rw [pk.lm]; omega)
    have e2 : (p.names.zip p.many).map (fun x => W.str x.1) = ((p.names.zip p.many).map (·.1)).map W.str := by rw [List.map_map]; rfl
    rw [e2, this]
  rw [en]
  have nl : p.names.length ≤ 16777216 := by omega
  have g3 : hg (hn h1 (O.lst (p.names.map W.str))) (nx h1 0) = some (.lst (p.names.map W.str)) := hg_new'
  have m3 : Mod no h (hn h1 (O.lst (p.names.map W.str))) := m1.trans Mod.new
  have lm1 := m1.1
  have l3 : (hn h1 (O.lst (p.names.map W.str))).length = h1.length + 1 := hn_len ..
  have rg := fun h2 : VH => z_rg1 (h := h2) (j := (p.names.length : Int)) (by omega) (by omega)
  simp [nl, rg]
  generalize hn h1 (O.lst (p.names.map W.str)) = h3 at *
  refine run_bind (lc_ones (h := h3) (N := p.names.length) (by omega) (fun i h' => by simp [e_law_heard_2])) ?_
  rintro _ h4 ⟨rfl, len4, new4, m4⟩
  simp [nl, entsW]
  have wl := (WL.ones len4.symm new4).mno (Mod.new (o := O.lst []))
  have f0 : hg (hn (hn h4 (O.lst ((List.range p.names.length).map fun i => W.ref (h3.length + i)))) (O.lst [])) (nx h4 1) = some (.lst []) := by simp
  have m5 : Mod no h3 (hn (hn h4 (O.lst ((List.range p.names.length).map fun i => W.ref (h3.length + i)))) (O.lst [])) := (m4.trans Mod.new).trans Mod.new
  have g5 := m5.get g3 (fun z => z)
  have m6 := m3.trans m5
  have lm4 := m4.1
  generalize hn (hn h4 (O.lst ((List.range p.names.length).map fun i => W.ref (h3.length + i)))) (O.lst []) = h5 at *
  have o0 : HsOk p.names.length ((List.range p.names.length).map fun g => [g]) := ⟨by simp, fun l hl => by
    obtain ⟨i, hi, rfl⟩ := List.mem_map.mp hl
    exact ⟨by simp, fun x hx => by simp at hx; subst hx; exact List.mem_range.mp hi⟩⟩
  have c0 : HL p h.length h5 (nx h4 1) (nx h4 0) (fun i => h3.length + i) (hearA p (es.take 0)) := ⟨⟨wl.hr, wl.hc, wl.inj, ⟨by unfold nx; omega, fun i _ => by omega⟩, wl.nr⟩, f0, by unfold nx; omega, ⟨by unfold nx; omega, fun i hi => by
    have hi : i < ((List.range p.names.length).map fun g => [g]).length := hi
    simp at hi
    unfold nx; omega⟩, o0⟩
  have lml : (es.map enW).length = es.length := List.length_map ..
  refine run_bind (for_all (es.map enW) (fun k env h' => env 0 = some (planW p) ∧ env 2 = some (.ref (nx h1 0)) ∧ env 3 = some (.ref (nx h4 0)) ∧ env 4 = some (.ref (nx h4 1)) ∧ HL p h.length h' (nx h4 1) (nx h4 0) (fun i => h3.length + i) (hearA p (es.take k)) ∧ hg h' (nx h1 0) = some (.lst (p.names.map W.str)) ∧ Mod no h h')
    ⟨by simp, by simp, by simp, by simp, c0, g5, m6⟩ (fun _ _ _ _ => rfl) (fun k w env h' hw ⟨v0, v2, v3, v4, a, hn2, m'⟩ => ?_)) ?_
  · rw [List.getElem?_map] at hw
    cases he : es[k]? with
    | none => rw [he] at hw; cases hw
    | some e =>
      rw [he] at hw
      cases hw
      have hk := (List.getElem?_eq_some_iff.mp he).1
      have eo := ok e (List.mem_of_getElem? he)
      obtain ⟨ge, eg, hge⟩ := eo.g
      have i3 := hearA_fl (p := p) (es := es) k
      refine (lheard_turn (n := n) pk eo eg hge a (by omega) m'.1 hn2 ⟨by unfold nx; omega, fun i _ => by unfold nx; omega⟩ v0 v2 v3 v4).imp ?_
      rintro ⟨fl, env'⟩ h'' ⟨q1, w0, w2, w3, w4, a', hn3, mm⟩
      rw [← hearA_s he] at a'
      exact ⟨q1, w0.trans v0, w2.trans v2, w3.trans v3, w4.trans v4, a', hn3, Mod.seq m' mm (fun _ _ z => z) (fun q hq z => by have z : h.length ≤ q := z; omega)⟩
  · rintro ⟨fl, env'⟩ h6 ⟨rfl, v0, v2, v3, v4, a, hn2, m'⟩
    rw [lml, List.take_length] at a
    have v4 : env' 4 = some (.ref (nx h4 1)) := v4
    have fd := a.fd
    have il := hearA_fl (p := p) (es := es) es.length
    rw [List.take_length] at il
    have fl : (hearA p es).1.length ≤ 16777216 := by omega
    simp [v4, fd, fl]
    exact q _ _ ⟨rfl, m'⟩
end
end Nw

set_option Elab.async false
set_option linter.all false
set_option maxRecDepth 100000
set_option maxHeartbeats 4000000
/-! k75: hears. -/
namespace Nw
open PySem PySem.Spec PyProof.Rows L2
/-- a while without break and return, with a measure -/
theorem wh_run {c : Env → VH → R Bool} {f : Env → VH → R (Fl × Env)} (I : Nat → Env → VH → Prop) (Q : Env → VH → Prop)
    (hs : ∀ m env h, I m env h → ∃ k h1, c env h = .ok k h1 ∧ ((k = true ∧ Run (f env h1) fun r h2 => r.1 = .nx ∧ ∃ m', m' < m ∧ I m' r.2 h2) ∨ (k = false ∧ Q env h1))) :
    ∀ (M m : Nat) (env : Env) (h : VH), m < M → I m env h → Run (whRun c f M env h) fun r h' => r.1 = .nx ∧ Q r.2 h'
  | 0, m, _, _, hm, _ => absurd hm (by omega)
  | M + 1, m, env, h, hm, hi => by
    obtain ⟨k, h1, e1, e2⟩ := hs m env h hi
    unfold whRun
    rw [e1]
    rcases e2 with ⟨rfl, ⟨fl, env'⟩, h2, q1, q2, m', lt, hi'⟩ | ⟨rfl, q⟩
    · show Run ((f env h1).bind _) _
      rw [q1]
      have q2 : fl = .nx := q2
      subst q2
      exact wh_run I Q hs M m' env' h2 (by omega) hi'
    · exact ⟨_, _, rfl, rfl, q⟩
/-- those who tell a guest -/
def tellers (p : PlanT) (g : Nat) : List Nat := (toOf p g).map (tellOf p)
/-- whom a guest may hear of -/
inductive Reach (p : PlanT) (g : Nat) : Nat → Prop
  | self : Reach p g g
  | step {x y : Nat} : Reach p g y → x ∈ tellers p y → Reach p g x
/-- a list of just those -/
def Clos (p : PlanT) (g : Nat) (l : List Nat) : Prop := HOk p.names.length l ∧ ∀ x, x ∈ l ↔ Reach p g x
section
variable {n : Nat} {p : PlanT} {h h' : VH} {g : Nat}
theorem tellers_lt (pk : PlanOk p) {x : Nat} (hx : x ∈ tellers p g) : x < p.names.length := by
  obtain ⟨k, hk, rfl⟩ := List.mem_map.mp hx
  exact tell_lt pk (List.mem_range.mp (List.mem_filter.mp hk).1)
/-- closed, with the guest itself, and nothing but what is reached: that is all of it -/
theorem clos_of {l : List Nat} (ok : HOk p.names.length l) (self : g ∈ l) (closed : ∀ y ∈ l, ∀ x ∈ tellers p y, x ∈ l) (sound : ∀ x ∈ l, Reach p g x) : Clos p g l :=
  ⟨ok, fun x => ⟨sound x, fun r => by
    induction r with
    | self => exact self
    | step _ hx ih => exact closed _ ih _ hx⟩⟩
/-- what a guest has heard by then lies within -/
def Within (p : PlanT) (hs0 : List (List Nat)) : Prop := ∀ (g : Nat) (l : List Nat), hs0[g]? = some l → ∀ x ∈ l, Reach p g x
theorem reach_trans {a b c : Nat} (h1 : Reach p a b) (h2 : Reach p b c) : Reach p a c := by
  induction h2 with
  | self => exact h1
  | step _ hx ih => exact .step ih hx
theorem dstep_in {hs0 : List (List Nat)} {known : List Nat} {w : W} (wi : Within p hs0) (hk : ∀ x ∈ known, Reach p g x) : ∀ x ∈ dstep p g hs0 known w, Reach p g x := by
  unfold dstep
  split
  · rename_i c _
    split
    · rename_i hc
      intro x hx
      rcases addU_in.mp hx with z | z
      · exact hk x z
      · have ht : tellOf p (nAt (toOf p g) c) ∈ tellers p g := by
          refine List.mem_map.mpr ⟨_, ?_, rfl⟩
          unfold nAt
          rw [List.getElem?_eq_getElem hc]
          exact List.getElem_mem hc
        unfold chAt at z
        cases e : hs0[tellOf p (nAt (toOf p g) c)]? with
        | none => rw [e] at z; cases z
        | some l =>
          rw [e] at z
          exact reach_trans (.step .self ht) (wi _ l e x z)
    · exact hk
  · exact hk
theorem fold_in {hs0 : List (List Nat)} {ds : List W} {known : List Nat} (wi : Within p hs0) (hk : ∀ x ∈ known, Reach p g x) : ∀ x ∈ ds.foldl (dstep p g hs0) known, Reach p g x := by
  induction ds generalizing known with
  | nil => exact hk
  | cons d ds ih => exact ih (dstep_in wi hk)
theorem hearS_in {x : List (List Nat) × List (List Nat)} {e : En} (wi : Within p x.2) : Within p (hearS p x e).2 ∧ ∀ y ∈ heardE p x.2 e, Reach p e.g.toNat y := by
  have hE : ∀ y ∈ heardE p x.2 e, Reach p e.g.toNat y := fold_in wi (fun y hy => by
    unfold chAt at hy
    cases e1 : x.2[e.g.toNat]? with
    | none => rw [e1] at hy; cases hy
    | some l => rw [e1] at hy; exact wi _ l e1 y hy)
  refine ⟨fun i l hl y hy => ?_, hE⟩
  have hl : (x.2.set e.g.toNat (heardE p x.2 e))[i]? = some l := hl
  by_cases c : i = e.g.toNat
  · subst c
    by_cases c2 : e.g.toNat < x.2.length
    · rw [List.getElem?_set_self c2] at hl
      cases hl
      exact hE y hy
    · rw [List.getElem?_eq_none (by rw [List.length_set]; omega)] at hl; cases hl
  · rw [List.getElem?_set_ne (fun z => c z.symm)] at hl
    exact wi i l hl y hy
end
end Nw

set_option Elab.async false
set_option linter.all false
set_option maxRecDepth 100000
set_option maxHeartbeats 4000000
/-! k75: hears, the program's way. -/
namespace Nw
open PySem PySem.Spec PyProof.Rows L2
section
variable {n : Nat} {p : PlanT} {h h' : VH} {g : Nat}
structure HI (p : PlanT) (g : Nat) (known todo : List Nat) : Prop where
  ok : HOk p.names.length known
  lt : ∀ x ∈ todo, x < p.names.length
  sk : ∀ x ∈ known, Reach p g x
  st : ∀ x ∈ todo, Reach p g x
  self : g ∈ known ∨ g ∈ todo
  closed : ∀ y ∈ known, ∀ x ∈ tellers p y, x ∈ known ∨ x ∈ todo
theorem tl_lc {env : Env} {own : List Nat} (ho : own = [5]) (pk : PlanOk p) (v0 : env 0 = some (planW p)) (hg' : g < p.names.length) :
    Run (itK (.ws (natsW (toOf p g))) (xlcF (prg.cfg (n + 2)) e_hears_1 own (.nm 5) [] env) h) fun acc h' => acc = natsW (tellers p g) ∧ Mod no h h' := by
  subst ho
  have chl := pk.chl
  refine (lc_mapx (toOf p g) (fun k => W.int ((k : Nat) : Int)) (fun k => W.int ((tellOf p k : Nat) : Int)) rfl (Nat.le_trans (List.length_filter_le _ _) (by simp; omega)) (fun k h1 hk m1 => ?_)).imp ?_
  · simp [e_hears_1, v0]
    refine run_bind (c_teller (n := n) pk (List.mem_range.mp (List.mem_filter.mp hk).1)) ?_
    rintro _ h2 ⟨rfl, m2⟩
    simp
    exact m2
  · rintro acc h' ⟨rfl, m⟩
    refine ⟨?_, m⟩
    unfold natsW tellers
    rw [List.map_map]
    rfl
theorem c_hears (pk : PlanOk p) (hg' : g < p.names.length) : Run (prg.call (n + 3) f_hears [planW p, .int (g : Nat)] h) fun r h' => ∃ l, r = .tup ((sortN l).map W.int) ∧ Clos p g l ∧ Mod no h h' := by
  refine run_q fun Q q => ?_
  rw [u_hears]
  have pn := pk.n1
  have chl := pk.chl
  simp [b_hears]
  have wh := wh_run (c := fun env h => evT (prg.cfg (n + 2)) (.cmp .ne (.var 3) (.lst [])) env h) (f := fun env h => evSs (prg.cfg (n + 2)) l_hears_1 env h)
    (fun m env h' => env 0 = some (planW p) ∧ env 2 = some (.ref (nx h 0)) ∧ env 3 = some (.ref (nx h 1)) ∧ ∃ known todo, hg h' (nx h 0) = some (.lst (natsW known)) ∧ hg h' (nx h 1) = some (.lst (natsW todo)) ∧ HI p g known todo ∧ m = todo.length + 101 * (p.names.length - known.length) ∧ m ≤ 1000 ∧ Mod no h h')
    (fun env h' => env 2 = some (.ref (nx h 0)) ∧ ∃ l, hg h' (nx h 0) = some (.lst (natsW l)) ∧ Clos p g l ∧ Mod no h h')
    (fun m env h' ⟨v0, v2, v3, known, todo, hk, ht, hi, em, mb, md⟩ => ?_)
  · have xw : ∀ (env : Env) (h' : VH), evS (prg.cfg (n + 2)) (.whl (.cmp .ne (.var 3) (.lst [])) l_hears_1) env h' = whRun (fun env h => evT (prg.cfg (n + 2)) (.cmp .ne (.var 3) (.lst [])) env h) (fun env h => evSs (prg.cfg (n + 2)) l_hears_1 env h) 100000 env h' := fun _ _ => rfl
    rw [xw]
    refine run_bind (wh 100000 (1 + 101 * p.names.length) _ _ (by omega) ⟨by simp, by simp, by simp, [], [g], by simp [natsW], by simp [natsW], ⟨⟨List.nodup_nil, by simp⟩, by simp; exact hg', by simp, by simp; exact .self, by simp, by simp⟩, by simp, by omega, Mod.new.trans Mod.new⟩) ?_
    rintro ⟨fl, env⟩ h3 ⟨rfl, v2, l, hl, cl, m3⟩
    have v2 : env 2 = some (.ref (nx h 0)) := v2
    have kl := cl.1.len
    have zs := z_sorted hl (show l.length < 64 by omega)
    have sl : (sortN l).length ≤ 16777216 := by unfold sortN; rw [List.length_mergeSort, List.length_map]; omega
    simp [v2, zs, sl]
    exact q _ _ ⟨l, rfl, cl, m3.trans Mod.new⟩
  · have sd : (natsW todo).all (simW 50) = true := by unfold natsW; rw [List.all_map]; exact List.all_eq_true.mpr fun _ _ => by simp
    have eqn : eqW (hn h' (O.lst [])) (.ref (nx h 1)) (.ref (nx h' 0)) = some (natsW todo).isEmpty := eqW_nil ((Mod.new (s := no)).get ht (fun z => z)) (by simp) sd
    refine ⟨!(natsW todo).isEmpty, hn h' (O.lst []), by simp [v3, eqn], ?_⟩
    have hk1 := (Mod.new (s := no) (o := O.lst [])).get hk (fun z => z)
    have ht1 := (Mod.new (s := no) (o := O.lst [])).get ht (fun z => z)
    have md1 : Mod no h (hn h' (O.lst [])) := md.trans Mod.new
    generalize hn h' (O.lst []) = h1 at *
    have kl := hi.ok.len
    rcases List.eq_nil_or_concat todo with rfl | ⟨t, x, rfl⟩
    · right
      exact ⟨rfl, v2, known, hk1, clos_of hi.ok (hi.self.resolve_right (by simp)) (fun y hy x hx => (hi.closed y hy x hx).resolve_right (by simp)) hi.sk, md1⟩
    · left
      rw [List.concat_eq_append] at *
      refine ⟨by simp [natsW], ?_⟩
      have xl := hi.lt x (by simp)
      have ne01 : ¬ nx h 0 = nx h 1 := by unfold nx; omega
      have ne10 : ¬ nx h 1 = nx h 0 := by unfold nx; omega
      have ht2 : hg h1 (nx h 1) = some (.lst (natsW t ++ [.int (x : Nat)])) := by rw [ht1]; unfold natsW; rw [List.map_append]; rfl
      refine run_q fun Q1 q1 => ?_
      have f1 : hg (hs h1 (nx h 1) (.lst (natsW t))) (nx h 0) = some (.lst (natsW known)) := by rw [hg_ne ne10]; exact hk1
      have f2 : hg (hs h1 (nx h 1) (.lst (natsW t))) (nx h 1) = some (.lst (natsW t)) := by rw [hg_hs (by rw [ht2]; rfl)]
      have mh : ∀ {a : VH} {o : O} (k : Nat), Mod no h a → Mod no h (hs a (nx h k) o) := fun {a o} k m => Mod.seq m (Mod.set (s := (· = nx h k)) rfl) (fun _ _ z => z) (fun q hq z => by have z : q = nx h k := z; unfold nx at z; omega)
      have tlen : (t ++ [x]).length = t.length + 1 := by simp
      simp [l_hears_1, v2, v3, ht2]
      by_cases c : x ∈ known
      · simp [hk1, nats_in, c]
        refine q1 _ _ ⟨rfl, t.length + 101 * (p.names.length - known.length), by rw [em, tlen]; omega, by simp [v0], by simp [v2], by simp [v3], known, t, f1, f2, ⟨hi.ok, fun y hy => hi.lt y (by simp [hy]), hi.sk, fun y hy => hi.st y (by simp [hy]), ?_, fun y hy z hz => ?_⟩, rfl, by rw [em, tlen] at mb; omega, mh 1 md1⟩
        · rcases hi.self with z | z
          · exact .inl z
          · rcases List.mem_append.mp z with z | z
            · exact .inr z
            · simp at z; subst z; exact .inl c
        · rcases hi.closed y hy z hz with z' | z'
          · exact .inl z'
          · rcases List.mem_append.mp z' with z' | z'
            · exact .inr z'
            · simp at z'; subst z'; exact .inl c
      · have k16 : (natsW known).length < 16777216 := by rw [nats_len]; omega
        have k17 : known.length < 16777216 := by omega
        simp [hk1, nats_in, c, f1, k16, k17, nats_len, v2, v0]
        have g0 : hg (hs (hs h1 (nx h 1) (.lst (natsW t))) (nx h 0) (.lst (natsW known ++ [.int (x : Nat)]))) (nx h 0) = some (.lst (natsW (known ++ [x]))) := by
          rw [hg_hs (by rw [f1]; rfl)]; unfold natsW; rw [List.map_append]; rfl
        have g1 : hg (hs (hs h1 (nx h 1) (.lst (natsW t))) (nx h 0) (.lst (natsW known ++ [.int (x : Nat)]))) (nx h 1) = some (.lst (natsW t)) := by
          rw [hg_ne ne01]; exact f2
        have m2 : Mod no h (hs (hs h1 (nx h 1) (.lst (natsW t))) (nx h 0) (.lst (natsW known ++ [.int (x : Nat)]))) := mh 0 (mh 1 md1)
        generalize hs (hs h1 (nx h 1) (.lst (natsW t))) (nx h 0) (.lst (natsW known ++ [.int (x : Nat)])) = h2 at *
        simp [v0, v3, g1]
        refine run_bind (c_channels_to (n := n + 1) pk xl) ?_
        rintro _ h3 ⟨rfl, m3⟩
        simp
        refine run_bind (tl_lc (n := n) (g := x) rfl pk (by simp [v0]) xl) ?_
        rintro _ h4 ⟨rfl, m4⟩
        have tel : (tellers p x).length ≤ 100 := by unfold tellers; rw [List.length_map]; exact Nat.le_trans (List.length_filter_le _ _) (by simp; omega)
        have te16 : (natsW (tellers p x)).length ≤ 16777216 := by rw [nats_len]; omega
        have te17 : (tellers p x).length ≤ 16777216 := by omega
        have m34 := m3.trans m4
        have g01 := (m34.trans (Mod.new (o := O.lst (natsW (tellers p x))))).get g0 (fun z => z)
        have g11 := (m34.trans (Mod.new (o := O.lst (natsW (tellers p x))))).get g1 (fun z => z)
        have g14 := m34.get g1 (fun z => z)
        have tt : (natsW t).length + (natsW (tellers p x)).length ≤ 16777216 := by rw [nats_len, nats_len]; rw [em, tlen] at mb; omega
        have tt2 : t.length + (tellers p x).length ≤ 16777216 := by rw [em, tlen] at mb; omega
        have m5 : Mod no h (hn h4 (O.lst (natsW (tellers p x)))) := (m2.trans m34).trans Mod.new
        have nk : HOk p.names.length (known ++ [x]) := ⟨by rw [List.nodup_append]; exact ⟨hi.ok.1, by simp, fun a ha b hb => by simp at hb; subst hb; exact fun z => c (z ▸ ha)⟩, fun y hy => by
          rcases List.mem_append.mp hy with z | z
          · exact hi.ok.2 y z
          · simp at z; subst z; exact xl⟩
        have kl2 := nk.len
        have kl3 : (known ++ [x]).length = known.length + 1 := by simp
        simp [te16, te17, nats_len, g1, g14, g11, tt, tt2]
        have rx : Reach p g x := hi.st x (by simp)
        refine q1 _ _ ⟨rfl, (t ++ tellers p x).length + 101 * (p.names.length - (known ++ [x]).length), ?_, by simp [v0], by simp [v2], by simp [v3], known ++ [x], t ++ tellers p x, ?_, ?_, ⟨nk, fun y hy => ?_, fun y hy => ?_, fun y hy => ?_, ?_, fun y hy z hz => ?_⟩, rfl, ?_, mh 1 m5⟩
        · rw [em, tlen, kl3, List.length_append]; omega
        · rw [hg_ne ne10]; exact g01
        · rw [hg_hs (by rw [g11]; rfl)]; unfold natsW; rw [List.map_append]
        · rcases List.mem_append.mp hy with z | z
          · exact hi.lt y (by simp [z])
          · exact tellers_lt pk z
        · rcases List.mem_append.mp hy with z | z
          · exact hi.sk y z
          · simp at z; subst z; exact rx
        · rcases List.mem_append.mp hy with z | z
          · exact hi.st y (by simp [z])
          · exact .step rx z
        · rcases hi.self with z | z
          · exact .inl (by simp [z])
          · rcases List.mem_append.mp z with z | z
            · exact .inr (by simp [z])
            · simp at z; subst z; exact .inl (by simp)
        · rcases List.mem_append.mp hy with y1 | y1
          · rcases hi.closed y y1 z hz with z' | z'
            · exact .inl (by simp [z'])
            · rcases List.mem_append.mp z' with z' | z'
              · exact .inr (by simp [z'])
              · simp at z'; subst z'; exact .inl (by simp)
          · simp at y1; subst y1
            exact .inr (by simp [hz])
        · rw [kl3, List.length_append]; rw [em, tlen] at mb; omega
end
end Nw

set_option Elab.async false
set_option linter.all false
set_option maxRecDepth 100000
set_option maxHeartbeats 4000000
/-! k75: hears, the law's way: the plain part. -/
namespace Nw
open PySem PySem.Spec PyProof.Rows L2
def pstep (kn : List Nat) (c : Nat × Nat × Nat) : List Nat := if c.2.1 ∈ kn ∧ c.1 ∉ kn then kn ++ [c.1] else kn
def pass (p : PlanT) (kn : List Nat) : List Nat := p.chans.foldl pstep kn
def passes (p : PlanT) (g : Nat) : Nat → List Nat
  | 0 => [g]
  | k + 1 => pass p (passes p g k)
section
variable {p : PlanT} {g : Nat} {kn : List Nat}
theorem pstep_ok (pk : PlanOk p) {c : Nat × Nat × Nat} (hc : c ∈ p.chans) (ok : HOk p.names.length kn) : HOk p.names.length (pstep kn c) := by
  unfold pstep
  split
  · rename_i h
    refine ⟨by rw [List.nodup_append]; exact ⟨ok.1, by simp, fun a ha b hb => by simp at hb; subst hb; exact fun z => h.2 (z ▸ ha)⟩, fun y hy => ?_⟩
    rcases List.mem_append.mp hy with z | z
    · exact ok.2 y z
    · simp at z; subst z; exact (pk.ch c hc).1
  · exact ok
theorem pstep_sub {c : Nat × Nat × Nat} : ∀ x ∈ kn, x ∈ pstep kn c := fun x hx => by
  unfold pstep
  split
  · simp [hx]
  · exact hx
theorem teller_mem {c : Nat × Nat × Nat} (hc : c ∈ p.chans) : c.1 ∈ tellers p c.2.1 := by
  obtain ⟨k, hk⟩ := List.mem_iff_getElem?.mp hc
  have kl := (List.getElem?_eq_some_iff.mp hk).1
  refine List.mem_map.mpr ⟨k, List.mem_filter.mpr ⟨List.mem_range.mpr kl, ?_⟩, ?_⟩
  · rw [hk]; exact decide_eq_true rfl
  · unfold tellOf; rw [hk]; rfl
theorem pstep_sound {c : Nat × Nat × Nat} (hc : c ∈ p.chans) (s : ∀ x ∈ kn, Reach p g x) : ∀ x ∈ pstep kn c, Reach p g x := by
  unfold pstep
  split
  · rename_i h
    intro x hx
    rcases List.mem_append.mp hx with z | z
    · exact s x z
    · simp at z; subst z; exact .step (s _ h.1) (teller_mem hc)
  · exact s
theorem pass_all (pk : PlanOk p) (ok : HOk p.names.length kn) (s : ∀ x ∈ kn, Reach p g x) : HOk p.names.length (pass p kn) ∧ (∀ x ∈ pass p kn, Reach p g x) ∧ (∀ x ∈ kn, x ∈ pass p kn) := by
  have gen : ∀ (l : List (Nat × Nat × Nat)) (kn : List Nat), (∀ c ∈ l, c ∈ p.chans) → HOk p.names.length kn → (∀ x ∈ kn, Reach p g x) → HOk p.names.length (l.foldl pstep kn) ∧ (∀ x ∈ l.foldl pstep kn, Reach p g x) ∧ (∀ x ∈ kn, x ∈ l.foldl pstep kn) := fun l => by
    induction l with
    | nil => intro kn _ ok s; exact ⟨ok, s, fun _ h => h⟩
    | cons c l ih =>
      intro kn hl ok s
      have hc := hl c (List.mem_cons_self ..)
      obtain ⟨a, b, d⟩ := ih (pstep kn c) (fun c' h => hl c' (List.mem_cons_of_mem _ h)) (pstep_ok pk hc ok) (pstep_sound hc s)
      exact ⟨a, b, fun x hx => d x (pstep_sub x hx)⟩
  exact gen p.chans kn (fun _ h => h) ok s
/-- closed: no channel adds -/
def Shut (p : PlanT) (kn : List Nat) : Prop := ∀ c ∈ p.chans, c.2.1 ∈ kn → c.1 ∈ kn
theorem pass_shut (s : Shut p kn) : pass p kn = kn := by
  unfold pass
  have gen : ∀ (l : List (Nat × Nat × Nat)), (∀ c ∈ l, c ∈ p.chans) → l.foldl pstep kn = kn := fun l => by
    induction l with
    | nil => intro _; rfl
    | cons c l ih =>
      intro hl
      have : pstep kn c = kn := by unfold pstep; rw [if_neg (fun z => z.2 (s c (hl c (List.mem_cons_self ..)) z.1))]
      rw [List.foldl_cons, this]
      exact ih fun c' h => hl c' (List.mem_cons_of_mem _ h)
  exact gen p.chans fun _ h => h
theorem pass_grow (ns : ¬ Shut p kn) : kn.length + 1 ≤ (pass p kn).length := by
  have mono : ∀ (l : List (Nat × Nat × Nat)) (kn : List Nat), kn.length ≤ (l.foldl pstep kn).length := fun l => by
    induction l with
    | nil => intro kn; exact Nat.le_refl _
    | cons c l ih =>
      intro kn
      refine Nat.le_trans ?_ (ih (pstep kn c))
      unfold pstep; split <;> simp
  have gen : ∀ (l : List (Nat × Nat × Nat)), (∃ c ∈ l, c.2.1 ∈ kn ∧ c.1 ∉ kn) → kn.length + 1 ≤ (l.foldl pstep kn).length := fun l => by
    induction l with
    | nil => rintro ⟨c, hc, _⟩; cases hc
    | cons c l ih =>
      rintro ⟨c', hc', h1, h2⟩
      rw [List.foldl_cons]
      by_cases hh : c.2.1 ∈ kn ∧ c.1 ∉ kn
      · have : pstep kn c = kn ++ [c.1] := if_pos hh
        rw [this]
        refine Nat.le_trans ?_ (mono l _)
        simp
      · have : pstep kn c = kn := if_neg hh
        rw [this]
        rcases List.mem_cons.mp hc' with z | z
        · subst z; exact absurd ⟨h1, h2⟩ hh
        · exact ih ⟨c', z, h1, h2⟩
  refine gen p.chans ?_
  have := Classical.not_forall.mp ns
  obtain ⟨c, hc⟩ := this
  have hc1 := Classical.not_forall.mp hc
  obtain ⟨m, hc2⟩ := hc1
  have := Classical.not_forall.mp hc2
  obtain ⟨i, hc3⟩ := this
  exact ⟨c, m, i, hc3⟩
theorem passes_in (pk : PlanOk p) (hg' : g < p.names.length) : ∀ k, HOk p.names.length (passes p g k) ∧ (∀ x ∈ passes p g k, Reach p g x) ∧ g ∈ passes p g k ∧ (Shut p (passes p g k) ∨ k + 1 ≤ (passes p g k).length)
  | 0 => ⟨⟨by simp [passes], by simp [passes]; exact hg'⟩, by simp [passes]; exact .self, by simp [passes], .inr (by simp [passes])⟩
  | k + 1 => by
    obtain ⟨a, b, c, d⟩ := passes_in pk hg' k
    obtain ⟨a2, b2, c2⟩ := pass_all pk a b
    refine ⟨a2, b2, c2 g c, ?_⟩
    by_cases s : Shut p (passes p g k)
    · left
      show Shut p (pass p (passes p g k))
      rw [pass_shut s]; exact s
    · right
      have := pass_grow s
      have := d.resolve_left s
      show k + 1 + 1 ≤ (pass p (passes p g k)).length
      omega
/-- as many passes as there are guests find all -/
theorem passes_clos (pk : PlanOk p) (hg' : g < p.names.length) : Clos p g (passes p g p.names.length) := by
  obtain ⟨a, b, c, d⟩ := passes_in pk hg' p.names.length
  have s : Shut p (passes p g p.names.length) := d.resolve_right (by have := a.len; omega)
  refine clos_of a c (fun y hy x hx => ?_) b
  obtain ⟨k, hk, rfl⟩ := List.mem_map.mp hx
  have hm := List.mem_filter.mp hk
  have kl := List.mem_range.mp hm.1
  have e := of_decide_eq_true hm.2
  unfold tellOf
  rw [List.getElem?_eq_getElem kl] at e ⊢
  have e : p.chans[k].2.1 = y := e
  exact s p.chans[k] (List.getElem_mem kl) (by rw [e]; exact hy)
end
end Nw

set_option Elab.async false
set_option linter.all false
set_option maxRecDepth 100000
set_option maxHeartbeats 4000000
/-! k75: hears, the law's way. -/
namespace Nw
open PySem PySem.Spec PyProof.Rows L2
section
variable {n : Nat} {p : PlanT} {h h' : VH} {g : Nat}
theorem foldl_take' {α β : Type} (F : β → α → β) (b : β) (l : List α) {k : Nat} {x : α} (e : l[k]? = some x) : (l.take (k + 1)).foldl F b = F ((l.take k).foldl F b) x := by
  rw [List.take_add_one, e, List.foldl_append]
  rfl
def nmW (p : PlanT) (kn : List Nat) : List W := kn.map fun k => W.str (p.nm k)
theorem o_inN {kn : List Nat} {j : Nat} (pk : PlanOk p) (ok : ∀ x ∈ kn, x < p.names.length) (hj : j < p.names.length) : inO h (.str (p.nm j)) (some (.lst (nmW p kn))) = some (decide (j ∈ kn)) := by
  have e : inF (.str (p.nm j)) (nmW p kn) = some (decide (j ∈ kn)) := by
    show (if flatW (.str (p.nm j)) = true ∧ (nmW p kn).all flatW = true then some ((nmW p kn).any fun y => eqF y (.str (p.nm j))) else none) = _
    rw [if_pos ⟨rfl, by unfold nmW; rw [List.all_map]; exact List.all_eq_true.mpr fun _ _ => rfl⟩]
    congr 1
    unfold nmW
    induction kn with
    | nil => rfl
    | cons x l ih =>
      rw [List.map_cons, List.any_cons, ih (fun y hy => ok y (List.mem_cons_of_mem _ hy))]
      have xl := ok x (List.mem_cons_self ..)
      have : eqF (.str (p.nm x)) (.str (p.nm j)) = decide (j = x) := by
        show (p.nm x == p.nm j) = _
        by_cases c : j = x
        · subst c; simp
        · rw [decide_eq_false c]
          have : p.nm x ≠ p.nm j := fun z => c (PlanT.nm_inj pk.nd xl hj z).symm
          simpa using this
      rw [this]
      simp
  show (match inF (.str (p.nm j)) (nmW p kn) with | some b => some b | none => _) = _
  rw [e]
theorem lh_inner {env : Env} {kn : List Nat} {a : Nat} (pk : PlanOk p) (ok : HOk p.names.length kn) (v3 : env 3 = some (.ref a)) (ha : hg h a = some (.lst (nmW p kn))) :
    Run (forK (forF (prg.cfg n) (.nm 5) l_law_hears_2) env (.ws (p.chans.map (chanW p))) h) fun q h' => q.1 = .nx ∧ (∀ i, i ≠ 5 → q.2 i = env i) ∧ hg h' a = some (.lst (nmW p (pass p kn))) ∧ Mod (· = a) h h' := by
  have pn := pk.n1
  have ll : (p.chans.map (chanW p)).length = p.chans.length := List.length_map ..
  refine (for_all (p.chans.map (chanW p)) (fun k env' h' => (∀ i, i ≠ 5 → env' i = env i) ∧ HOk p.names.length ((p.chans.take k).foldl pstep kn) ∧ hg h' a = some (.lst (nmW p ((p.chans.take k).foldl pstep kn))) ∧ Mod (· = a) h h') ⟨fun _ _ => rfl, ok, ha, .rfl⟩ (fun _ _ _ _ => rfl) (fun k w env' h' hw ⟨we, ok', ha', m'⟩ => ?_)).imp ?_
  · rw [List.getElem?_map] at hw
    cases hc : p.chans[k]? with
    | none => rw [hc] at hw; cases hw
    | some c =>
      rw [hc] at hw
      cases hw
      have cm := List.mem_of_getElem? hc
      have cb := pk.ch c cm
      have w3 : env' 3 = some (.ref a) := (we 3 (by omega)).trans v3
      have es : (p.chans.take (k + 1)).foldl pstep kn = pstep ((p.chans.take k).foldl pstep kn) c := foldl_take' _ _ _ hc
      have ok2 := pstep_ok pk cm ok'
      rw [es]
      generalize (p.chans.take k).foldl pstep kn = kk at *
      have kl := ok'.len
      have i1 := fun h : VH => o_inN (h := h) pk ok'.2 cb.2.1
      have i2 := fun h : VH => o_inN (h := h) pk ok'.2 cb.1
      refine run_q fun Q q => ?_
      by_cases c1 : c.2.1 ∈ kk
      · by_cases c2 : c.1 ∈ kk
        · have e1 : pstep kk c = kk := if_neg (fun z => z.2 c2)
          rw [e1] at q
          simp [l_law_hears_2, chanW, w3, ha', i1, i2, c1, c2]
          exact q _ _ ⟨rfl, fun i hi => (setv_ne hi).trans (we i hi), ok', ha', m'⟩
        · have e1 : pstep kk c = kk ++ [c.1] := if_pos ⟨c1, c2⟩
          rw [e1] at q ok2
          have kl2 : (nmW p kk).length < 16777216 := by unfold nmW; rw [List.length_map]; omega
          simp [l_law_hears_2, chanW, w3, ha', i1, i2, c1, c2, kl2]
          refine q _ _ ⟨rfl, fun i hi => (setv_ne hi).trans (we i hi), ok2, ?_, m'.trans (Mod.set (s := (· = a)) rfl)⟩
          rw [hg_hs (by rw [ha']; rfl)]
          unfold nmW
          rw [List.map_append]
          rfl
      · have e1 : pstep kk c = kk := if_neg (fun z => c1 z.1)
        rw [e1] at q
        simp [l_law_hears_2, chanW, w3, ha', i1, i2, c1]
        exact q _ _ ⟨rfl, fun i hi => (setv_ne hi).trans (we i hi), ok', ha', m'⟩
  · rintro ⟨fl, env'⟩ h' ⟨q1, we, ok', ha', m'⟩
    rw [ll, List.take_length] at ha'
    exact ⟨q1, we, ha', m'⟩
/-- those of a list, in order -/
def inOrder (p : PlanT) (l : List Nat) : List Int := castL ((List.range p.names.length).filter fun k => decide (k ∈ l))
theorem c_law_hears (pk : PlanOk p) (hg' : g < p.names.length) : Run (prg.call (n + 1) f_law_hears [planW p, .int (g : Nat)] h) fun r h' => r = .tup ((inOrder p (passes p g p.names.length)).map W.int) ∧ Mod no h h' := by
  refine run_q fun Q q => ?_
  rw [u_law_hears]
  have pn := pk.n1
  have lz : (p.names.zip p.many).length ≤ 16777216 := by rw [List.length_zip]; omega
  simp [b_law_hears]
  refine run_bind (lc_mapx (p.names.zip p.many) (fun x => W.tup [.str x.1, .int x.2]) (fun x => W.str x.1) (its := .ws (guestL p)) rfl lz (fun x h5 hx md => ?_)) ?_
  · simp [e_law_hears_1]
    exact Mod.rfl
  rintro _ h1 ⟨rfl, m1⟩
  have en : (p.names.zip p.many).map (fun x => W.str x.1) = p.names.map W.str := by
    have : (p.names.zip p.many).map (·.1) = p.names := List.map_fst_zip (by rw [pk.lm]; omega)
    have e2 : (p.names.zip p.many).map (fun x => W.str x.1) = ((p.names.zip p.many).map (·.1)).map W.str := by rw [List.map_map]; rfl
    rw [e2, this]
  rw [en]
  have nl : p.names.length ≤ 16777216 := by omega
  have eng : atW (p.names.map W.str) ((g : Nat) : Int) = some (.str (p.nm g)) := by rw [atW_nat, List.getElem?_map, p.nm_of hg']; rfl
  have lm1 := m1.1
  have g2 : hg (hn (hn h1 (O.lst (p.names.map W.str))) (O.lst [.str (p.nm g)])) (nx h1 0) = some (.lst (p.names.map W.str)) := by simp
  have g3 : hg (hn (hn h1 (O.lst (p.names.map W.str))) (O.lst [.str (p.nm g)])) (nx h1 1) = some (.lst (nmW p (passes p g 0))) := by simp [nmW, passes]
  have zt : itsOf .plain [.ref (nx h1 0)] (hn (hn h1 (O.lst (p.names.map W.str))) (O.lst [.str (p.nm g)])) = .ok (.live (nx h1 0)) (hn (hn h1 (O.lst (p.names.map W.str))) (O.lst [.str (p.nm g)])) := z_itl _ g2
  simp [nl, eng, zt]
  have m3 : Mod no h (hn (hn h1 (O.lst (p.names.map W.str))) (O.lst [.str (p.nm g)])) := (m1.trans Mod.new).trans Mod.new
  generalize hn (hn h1 (O.lst (p.names.map W.str))) (O.lst [.str (p.nm g)]) = h3 at *
  have n01 : ¬ nx h1 0 = nx h1 1 := by unfold nx; omega
  have lml : (p.names.map W.str).length = p.names.length := List.length_map ..
  refine run_bind (for_all (p.names.map W.str) (fun k env h' => env 0 = some (planW p) ∧ env 2 = some (.ref (nx h1 0)) ∧ env 3 = some (.ref (nx h1 1)) ∧ hg h' (nx h1 1) = some (.lst (nmW p (passes p g k))) ∧ Mod (· = nx h1 1) h3 h') ⟨by simp, by simp, by simp, g3, .rfl⟩ (its := .live (nx h1 0)) (fun k env h' ⟨_, _, _, _, m⟩ => listAt_of (m.get g2 n01)) (fun k w env h' hw ⟨v0, v2, v3, ha, m'⟩ => ?_)) ?_
  · refine run_q fun Q1 q1 => ?_
    simp [l_law_hears_1, v0]
    refine run_bind (lh_inner (n := n) (env := setv env 4 w) (a := nx h1 1) pk (passes_in pk hg' k).1 (by simp [v3]) ha) ?_
    rintro ⟨fl, env'⟩ h'' ⟨rfl, we, ha', mm⟩
    have we : ∀ i, i ≠ 5 → env' i = setv env 4 w i := we
    simp
    exact q1 _ _ ⟨rfl, (we 0 (by omega)).trans (by simp [v0]), (we 2 (by omega)).trans (by simp [v2]), (we 3 (by omega)).trans (by simp [v3]), ha', m'.trans mm⟩
  rintro ⟨fl, env⟩ h4 ⟨rfl, v0, v2, v3, ha, m4⟩
  rw [lml] at ha
  have v2 : env 2 = some (.ref (nx h1 0)) := v2
  have v3 : env 3 = some (.ref (nx h1 1)) := v3
  have g4 := m4.get g2 n01
  have rg := z_rg1 (h := h4) (j := (p.names.length : Int)) (by omega) (by omega)
  simp [v2, g4, rg]
  have ok := (passes_in (p := p) (g := g) pk hg' p.names.length).1
  refine run_bind (lc_filx (List.range p.names.length) (fun j => W.int ((j : Nat) : Int)) (fun j => if j ∈ passes p g p.names.length then some (.int ((j : Nat) : Int)) else none) (by rw [range_nat]; rfl) (by simp; omega) (fun j h5 hj m5 => ?_)) ?_
  · have hj := List.mem_range.mp hj
    have g5 := m5.get g4 (fun z => z)
    have a5 := m5.get ha (fun z => z)
    have enj : atW (p.names.map W.str) ((j : Nat) : Int) = some (.str (p.nm j)) := by rw [atW_nat, List.getElem?_map, p.nm_of hj]; rfl
    have i1 := o_inN (h := h5) pk ok.2 hj
    simp [e_law_hears_2, t_law_hears_2, v2, v3, g5, enj, a5, i1]
    refine run_ite (fun c => ?_) (fun c => ?_)
    · simp [c]; exact Mod.rfl
    · simp [c]; exact Mod.rfl
  rintro _ h6 ⟨rfl, m6⟩
  rw [filter_mapP (fun j : Nat => W.int ((j : Nat) : Int)) (fun j => j ∈ passes p g p.names.length) (List.range p.names.length)]
  have fl : ((List.range p.names.length).filter fun j => decide (j ∈ passes p g p.names.length)).length ≤ 16777216 := Nat.le_trans (List.length_filter_le _ _) (by simp; omega)
  have eo : (inOrder p (passes p g p.names.length)).map W.int = ((List.range p.names.length).filter fun j => decide (j ∈ passes p g p.names.length)).map fun j => W.int ((j : Nat) : Int) := by unfold inOrder castL; rw [List.map_map]; rfl
  rw [eo] at q
  generalize (List.range p.names.length).filter (fun j => decide (j ∈ passes p g p.names.length)) = l6 at *
  simp [fl]
  refine q _ _ ⟨rfl, ((Mod.seq m3 m4 (fun _ _ z => z) (fun q hq z => by have z : q = nx h1 1 := z; unfold nx at z; omega)).trans m6).trans Mod.new⟩
end
end Nw

set_option Elab.async false
set_option linter.all false
set_option maxRecDepth 100000
set_option maxHeartbeats 4000000
/-! k75: sorted lists of the same numbers. -/
namespace Nw
open PySem PySem.Spec PyProof.Rows L2
theorem sorted_eq : ∀ (a b : List Int), a.Pairwise (· ≤ ·) → b.Pairwise (· ≤ ·) → a.Perm b → a = b
  | [], b, _, _, h => (List.nil_perm.mp h).symm
  | x :: a, [], _, _, h => absurd h.length_eq (by simp)
  | x :: a, y :: b, ha, hb, h => by
    have hx : x ∈ y :: b := h.mem_iff.mp (List.mem_cons_self ..)
    have hy : y ∈ x :: a := h.mem_iff.mpr (List.mem_cons_self ..)
    rw [List.pairwise_cons] at ha hb
    have e : x = y := by
      rcases List.mem_cons.mp hx with z | z
      · exact z
      · rcases List.mem_cons.mp hy with z' | z'
        · exact z'.symm
        · have := hb.1 x z
          have := ha.1 y z'
          omega
    subst e
    rw [sorted_eq a b ha.2 hb.2 ((List.perm_cons x).mp h)]
theorem sort_order {p : PlanT} {l k : List Nat} (ok : HOk p.names.length l) (e : ∀ x, x ∈ l ↔ x ∈ k) : sortN l = inOrder p k := by
  unfold sortN inOrder castL
  refine sorted_eq _ _ ?_ ?_ ?_
  · have := List.pairwise_mergeSort (le := fun (a b : Int) => decide (a ≤ b)) (fun a b c h1 h2 => by simp at *; omega) (fun a b => by simp; omega) (l.map fun k => ((k : Nat) : Int))
    exact this.imp fun h => by simpa using h
  · rw [List.pairwise_map]
    exact (List.Pairwise.filter _ List.pairwise_lt_range).imp fun h => by omega
  · refine (List.mergeSort_perm _ _).trans (List.Perm.map _ ?_)
    refine (List.perm_ext_iff_of_nodup ok.1 (List.Pairwise.filter _ List.nodup_range)).mpr fun x => ?_
    rw [List.mem_filter, List.mem_range]
    constructor
    · exact fun h => ⟨ok.2 x h, decide_eq_true ((e x).mp h)⟩
    · exact fun h => (e x).mpr (of_decide_eq_true h.2)
/-- hears and the law's are one -/
theorem clos_same {p : PlanT} {g : Nat} {l k : List Nat} (a : Clos p g l) (b : Clos p g k) : sortN l = inOrder p k := sort_order a.1 fun x => (a.2 x).trans (b.2 x).symm
end Nw

set_option Elab.async false
set_option linter.all false
set_option maxRecDepth 100000
set_option maxHeartbeats 4000000
/-! k75: what was heard lies within what may be heard. -/
namespace Nw
open PySem PySem.Spec PyProof.Rows L2
section
variable {p : PlanT}
theorem within_0 : Within p ((List.range p.names.length).map fun g => [g]) := fun g l hl x hx => by
  rw [List.getElem?_map] at hl
  by_cases c : g < p.names.length
  · rw [List.getElem?_range c] at hl
    cases hl
    simp at hx; subst hx; exact .self
  · rw [List.getElem?_eq_none (by simp; omega)] at hl; cases hl
theorem hearA_in {es : List En} : ∀ k, k ≤ es.length → Within p (hearA p (es.take k)).2 ∧ (hearA p (es.take k)).1.length = k ∧ ∀ (i : Nat) (l : List Nat), (hearA p (es.take k)).1[i]? = some l → ∃ e, es[i]? = some e ∧ ∀ y ∈ l, Reach p e.g.toNat y
  | 0, _ => ⟨within_0, rfl, fun i l hl => by cases hl⟩
  | k + 1, hk => by
    obtain ⟨a, b, c⟩ := hearA_in (es := es) k (by omega)
    have he : es[k]? = some (es[k]'(by omega)) := List.getElem?_eq_getElem (by omega)
    rw [hearA_s he]
    obtain ⟨w, hE⟩ := hearS_in (e := es[k]'(by omega)) a
    refine ⟨w, by show (_ ++ [_]).length = _; rw [List.length_append, b]; rfl, fun i l hl => ?_⟩
    have hl : ((hearA p (es.take k)).1 ++ [heardE p (hearA p (es.take k)).2 (es[k]'(by omega))])[i]? = some l := hl
    rw [append_at, b] at hl
    split at hl
    · rename_i ei
      cases hl
      subst ei
      exact ⟨_, he, hE⟩
    · exact c i l hl
theorem mem_sortN {l : List Nat} {z : Int} : z ∈ sortN l ↔ ∃ k ∈ l, z = (k : Nat) := by
  unfold sortN
  rw [(List.mergeSort_perm _ _).mem_iff, List.mem_map]
  constructor
  · rintro ⟨k, hk, rfl⟩; exact ⟨k, hk, rfl⟩
  · rintro ⟨k, hk, rfl⟩; exact ⟨k, hk, rfl⟩
end
end Nw

set_option Elab.async false
set_option linter.all false
set_option maxRecDepth 100000
set_option maxHeartbeats 4000000
/-! k75: the law. -/
namespace Nw
open PySem PySem.Spec PyProof.Rows L2
section
variable {n : Nat} {h h' : VH} {w d : Nat}
def toldW (x : List (List Nat)) : W := .tup (x.map fun l => .tup ((sortN l).map W.int))
theorem pl_ints (l : List Int) (hl : l.length ≤ 16777216) (k : Nat) : plW (k + 1) (.tup (l.map W.int)) = true := by
  rw [pl_t, Bool.and_eq_true]
  exact ⟨List.all_eq_true.mpr fun w hw => by obtain ⟨i, _, rfl⟩ := List.mem_map.mp hw; simp, by simpa using hl⟩
theorem o_inT {l : List Int} (i : Int) : inF (.int i) (l.map W.int) = some (decide (i ∈ l)) := by
  show (if flatW (.int i) = true ∧ (l.map W.int).all flatW = true then some ((l.map W.int).any fun y => eqF y (.int i)) else none) = _
  rw [if_pos ⟨rfl, by rw [List.all_map]; exact List.all_eq_true.mpr fun _ _ => rfl⟩]
  congr 1
  induction l with
  | nil => rfl
  | cons x l ih =>
    rw [List.map_cons, List.any_cons, ih]
    have : eqF (.int x) (.int i) = decide (i = x) := by show (x == i) = _; rw [Bool.beq_eq_decide_eq]; exact decide_eq_decide.mpr ⟨fun z => z.symm, fun z => z.symm⟩
    rw [this]
    simp
theorem sortN_nd {l : List Nat} (nd : l.Nodup) : (sortN l).Nodup := by
  unfold sortN
  rw [(List.mergeSort_perm _ _).nodup_iff]
  exact List.Pairwise.map _ (fun a b h z => h (Int.ofNat.inj z)) nd
theorem hearA_hok {p : PlanT} {es : List En} (i : Nat) (l : List Nat) (hl : (hearA p es).1[i]? = some l) : HOk p.names.length l := by
  have gen : ∀ (es : List En) (x : List (List Nat) × List (List Nat)), HsOk p.names.length x.2 → (∀ (i : Nat) (l : List Nat), x.1[i]? = some l → HOk p.names.length l) → ∀ (i : Nat) (l : List Nat), (es.foldl (hearS p) x).1[i]? = some l → HOk p.names.length l := fun es => by
    induction es with
    | nil => intro x _ h; exact h
    | cons e es ih =>
      intro x o h
      refine ih (hearS p x e) (hearS_ok o) (fun i l hl => ?_)
      have hl : (x.1 ++ [heardE p x.2 e])[i]? = some l := hl
      rw [append_at] at hl
      split at hl
      · cases hl
        exact fold_ok o (o.at _)
      · exact h i l hl
  refine gen es _ ⟨by simp, fun l hl => ?_⟩ (fun i l hl => by cases hl) i l hl
  obtain ⟨i, hi, rfl⟩ := List.mem_map.mp hl
  exact ⟨by simp, fun x hx => by simp at hx; subst hx; exact List.mem_range.mp hi⟩
theorem hearA_nd {p : PlanT} {es : List En} (i : Nat) (l : List Nat) (hl : (hearA p es).1[i]? = some l) : l.Nodup := (hearA_hok i l hl).1
theorem ask_turn {p : PlanT} {es : List En} {env : Env} {k : Nat} (pk : PlanOk p) (ok : ∀ e ∈ es, EnOk p.names.length e) (el : es.length ≤ 1000) (hk : k < p.names.length) (v1 : env 1 = some (planW p)) (v3 : env 3 = some (entsW es)) (v4 : env 4 = some (toldW (hearA p es).1)) :
    Run (forF (prg.cfg (n + 14)) (.nm 5) l_law_asks_1 (.int (k : Nat)) env h) fun q h' => q.1 = .nx ∧ (∀ i, i ≠ 5 → i ≠ 6 → q.2 i = env i) ∧ Mod no h h' := by
  refine run_q fun Q q => ?_
  have pn := pk.n1
  have io : (inOrder p (passes p k p.names.length)).length ≤ 16777216 := by unfold inOrder castL; rw [List.length_map]; exact Nat.le_trans (List.length_filter_le _ _) (by simp; omega)
  simp [l_law_asks_1, v1]
  refine run_bind (c_law_hears (n := n + 13) pk hk) ?_
  rintro _ h1 ⟨rfl, m1⟩
  simp [v1]
  refine run_bind (c_hears (n := n + 11) pk hk) ?_
  rintro _ h2 ⟨l, rfl, cl, m2⟩
  have pc := passes_clos pk hk
  rw [clos_same cl pc]
  simp
  refine run_bind (c_same (n := n + 12) 1 _ h2 (pl_ints _ io 0)) ?_
  rintro _ h3 ⟨rfl, m3⟩
  have rg := z_rg1 (h := h3) (j := (es.length : Int)) (by omega) (by omega)
  simp [v3, entsW, rg]
  have hrl : (rangeW 0 (es.length : Int)).length = es.length := by rw [range_len]; omega
  have ha := hearA_in (p := p) (es := es) es.length (Nat.le_refl _)
  rw [List.take_length] at ha
  obtain ⟨_, hl, hin⟩ := ha
  have hnd := hearA_nd (p := p) (es := es)
  refine run_bind (lc_none (l := rangeW 0 (es.length : Int)) (its := .ws (rangeW 0 (es.length : Int))) rfl (by rw [hrl]; omega) (fun i x h4 hx m4 => ?_)) ?_
  · obtain ⟨rfl, lt⟩ := range_at hx
    have lt : i < es.length := by omega
    have ek : (0 : Int) + (i : Int) = ((i : Nat) : Int) := by omega
    have he : es[i]? = some es[i] := List.getElem?_eq_getElem lt
    have hq : (hearA p es).1[i]? = some ((hearA p es).1[i]'(by omega)) := List.getElem?_eq_getElem (by omega)
    have ea : atW (es.map enW) ((i : Nat) : Int) = some (enW es[i]) := by rw [atW_nat, List.getElem?_map, he]; rfl
    have eb : atW ((hearA p es).1.map fun l => W.tup ((sortN l).map W.int)) ((i : Nat) : Int) = some (.tup ((sortN ((hearA p es).1[i]'(by omega))).map W.int)) := by rw [atW_nat, List.getElem?_map, hq]; rfl
    obtain ⟨e', he', hr⟩ := hin i _ hq
    rw [he] at he'
    cases he'
    rw [ek]
    generalize (hearA p es).1[i]'(by omega) = hl0 at *
    have v4' := v4
    unfold toldW at v4'
    refine run_q fun Q1 q1 => ?_
    simp [e_law_asks_2, t_law_asks_2, v3, entsW, ea, enW]
    have fin : ∀ {h6 : VH}, Mod no h4 h6 → Q1 none h6 := fun m6 => q1 _ _ ⟨rfl, m6⟩
    refine run_ite (fun cg => ?_) (fun cg => ?_)
    · have sub : ∀ z ∈ sortN hl0, z ∈ inOrder p (passes p k p.names.length) := fun z hz => by
        obtain ⟨y, hy, rfl⟩ := mem_sortN.mp hz
        have hy2 := hr y hy
        have eg : (es[i].g).toNat = k := by rw [cg]; rfl
        rw [eg] at hy2
        have := (pc.2 y).mpr hy2
        unfold inOrder castL
        exact List.mem_map.mpr ⟨y, List.mem_filter.mpr ⟨List.mem_range.mpr (pc.1.2 y this), decide_eq_true this⟩, rfl⟩
      have sl : (sortN hl0).length ≤ 16777216 := Nat.le_trans (List.Nodup.length_le_of_subset (sortN_nd (hnd i hl0 hq)) sub) io
      simp [v4', eb]
      refine run_bind (lc_none (l := (sortN hl0).map W.int) (its := .ws ((sortN hl0).map W.int)) rfl (by simpa using sl) (fun j z h6 hz m6 => ?_)) ?_
      · rw [List.getElem?_map] at hz
        cases hz2 : (sortN hl0)[j]? with
        | none => rw [hz2] at hz; cases hz
        | some z' =>
          rw [hz2] at hz
          cases hz
          have i1 := o_inT (l := inOrder p (passes p k p.names.length)) z'
          have sb := sub z' (List.mem_of_getElem? hz2)
          have i2 : inW h6 (.int z') (.tup ((inOrder p (passes p k p.names.length)).map W.int)) = some true := by
            show inF _ _ = _
            rw [i1, decide_eq_true sb]
          simp [e_law_asks_3, t_law_asks_3, -z_inT, -z_inF, i2]
          exact Mod.rfl
      · rintro _ h6 ⟨rfl, m6⟩
        have eqn : eqW (hn (hn h6 (O.lst [])) (O.lst [])) (.ref (nx h6 0)) (.ref (nx h6 1)) = some true := by
          rw [eqW_nil (a := []) (by simp) (by simp) (by simp)]; rfl
        simp [eqn]
        exact fin ((m6.trans Mod.new).trans Mod.new)
    · simp [cg]
      exact fin Mod.rfl
  · rintro _ h5 ⟨rfl, m5⟩
    have eqn : eqW (hn (hn h5 (O.lst [])) (O.lst [])) (.ref (nx h5 0)) (.ref (nx h5 1)) = some true := by
      rw [eqW_nil (a := []) (by simp) (by simp) (by simp)]; rfl
    simp [eqn]
    refine q _ _ ⟨rfl, fun i h5 h6 => (setv_ne h6).trans (setv_ne h5), (((((m1.trans m2).trans m3).trans m5).trans Mod.new).trans Mod.new)⟩
theorem guests_lc {env : Env} {own : List Nat} {l : List W} (ho : own = [7]) (v0 : env 0 = some (.ref w)) (a : WOk h w d) (hl : l.length ≤ 16777216) :
    Run (itK (.ws l) (xlcF (prg.cfg (n + 5)) e_law_asks_1 own (.nm 7) [] env) h) fun acc h' => ∃ gs : List Gst, acc = gs.map (fun x => guestW x.1 x.2) ∧ gs.length = l.length ∧ (∀ x ∈ gs, GOk x.1 x.2) ∧ WOk h' w d ∧ Mod (· = w) h h' := by
  subst ho
  refine (lc_inv l (fun i acc h' => (∃ gs : List Gst, acc = gs.map (fun x => guestW x.1 x.2) ∧ gs.length = i ∧ (∀ x ∈ gs, GOk x.1 x.2)) ∧ WOk h' w d ∧ Mod (· = w) h h') ⟨⟨[], rfl, rfl, by simp⟩, a, .rfl⟩ hl (fun _ _ _ _ => rfl) (fun i x acc h1 hx ⟨⟨gs, ea, gl, go⟩, a1, m1⟩ => ?_)).imp ?_
  · refine run_q fun Q q => ?_
    simp [e_law_asks_1, v0]
    refine run_bind (c_guest (n := n) a1) ?_
    rintro _ h2 ⟨code, first, rfl, gok, _, a2, m2⟩
    simp
    refine q _ _ ⟨⟨gs ++ [(code, first)], by rw [ea]; simp, by simp [gl], fun x hx => ?_⟩, a2, m1.trans m2⟩
    rcases List.mem_append.mp hx with z | z
    · exact go x z
    · simp at z; subst z; exact gok
  · rintro acc h1 ⟨⟨⟨gs, ea, gl, go⟩, a1, m1⟩, _⟩
    exact ⟨gs, ea, gl, go, a1, m1⟩
theorem c_asks (a : WOk h w d) : Run (prg.call (n + 15) f_law_asks [.ref w] h) fun r h' => r = .bl true ∧ WOk h' w d := by
  refine run_q fun Q q => ?_
  rw [u_law_asks]
  simp [b_law_asks]
  refine run_bind (c_next (n := n + 13) a (by decide)) ?_
  rintro _ h2 ⟨x, rfl, ⟨x0, x1⟩, wk2, m2⟩
  simp
  refine run_bind (c_next (n := n + 13) wk2 (by decide)) ?_
  rintro _ h3 ⟨c, rfl, ⟨c0, c1⟩, wk3, m3⟩
  obtain ⟨many, em⟩ : ∃ many : Nat, (many : Int) = 2 + c := ⟨(2 + c).toNat, by omega⟩
  simp [← em]
  refine run_bind (c_plan (n := n + 10) (many := many) (qt := decide (x = 0)) (by omega) (by omega) wk3) ?_
  rintro _ h4 ⟨p, rfl, pk, pn, _, tk, _, wk4, m4⟩
  simp
  have gl16 : (guestL p).length ≤ 16777216 := by
    unfold guestL
    rw [List.length_map, List.length_zip]
    have := pk.n1
    omega
  refine run_bind (guests_lc (n := n + 9) rfl (by simp) wk4 gl16) ?_
  rintro _ h5 ⟨gs, rfl, gl, go, wk5, m5⟩
  have gl : gs.length = p.names.length := by
    rw [gl]; unfold guestL
    rw [List.length_map, List.length_zip, pk.lm]; omega
  have n1 := pk.n1
  have gs16 : gs.length ≤ 16777216 := by omega
  have wk6 : WOk (hn h5 (O.lst (gs.map fun x => guestW x.1 x.2))) w d := wk5.new
  simp [gs16]
  have eg : W.tup (gs.map fun x => guestW x.1 x.2) = gstsW gs := rfl
  rw [eg]
  refine run_bind (c_next (n := n + 13) wk6 (by decide)) ?_
  rintro _ h6 ⟨k, rfl, ⟨k0, k1⟩, wk7, m6⟩
  obtain ⟨N, rfl⟩ : ∃ N : Nat, k = N := ⟨k.toNat, by omega⟩
  simp
  refine run_bind (c_run (n := n + 9) (N := N) pk go gl tk (by omega)) ?_
  rintro _ h7 ⟨rfl, m7⟩
  have wk8 := wk7.mod m7 (fun z => z) (fun z => z)
  obtain ⟨eo, eL⟩ := runY_ok pk tk go gl N
  have ee : W.tup ((runY p gs N).map enW) = entsW (runY p gs N) := rfl
  rw [ee]
  generalize runY p gs N = es at *
  simp
  refine run_bind (c_law_heard (n := n + 13) pk eo (by omega)) ?_
  rintro _ h8 ⟨rfl, m8⟩
  have et : W.tup ((hearA p es).1.map fun l => W.tup ((sortN l).map W.int)) = toldW (hearA p es).1 := rfl
  rw [et]
  simp
  refine run_bind (c_heard (n := n + 10) pk eo (by omega)) ?_
  rintro _ h9 ⟨rfl, m9⟩
  rw [et]
  simp
  have pl : plW 2 (toldW (hearA p es).1) = true := by
    have ha := (hearA_in (p := p) (es := es) es.length (Nat.le_refl _)).2.1
    rw [List.take_length] at ha
    unfold toldW
    rw [pl_t, Bool.and_eq_true]
    refine ⟨List.all_eq_true.mpr fun v hv => ?_, by simp; omega⟩
    obtain ⟨l, hl, rfl⟩ := List.mem_map.mp hv
    obtain ⟨i, hi⟩ := List.mem_iff_getElem?.mp hl
    have hk := (hearA_hok i l hi).len
    exact pl_ints _ (by unfold sortN; rw [List.length_mergeSort, List.length_map]; omega) 0
  refine run_bind (c_same (n := n + 11) 2 _ h9 pl) ?_
  rintro _ h10 ⟨rfl, m10⟩
  have wk9 := ((wk8.mod m8 (fun z => z) (fun z => z)).mod m9 (fun z => z) (fun z => z)).mod m10 (fun z => z) (fun z => z)
  have rg := z_rg1 (h := h10) (j := (gs.length : Int)) (by omega) (by omega)
  simp [gstsW, rg]
  refine run_bind (for_all (rangeW 0 (gs.length : Int)) (fun i env h' => env 1 = some (planW p) ∧ env 3 = some (entsW es) ∧ env 4 = some (toldW (hearA p es).1) ∧ WOk h' w d) ⟨by simp, by simp, by simp, wk9⟩ (fun _ _ _ _ => rfl) (fun i x env h' hx ⟨v1, v3, v4, a'⟩ => ?_)) ?_
  · obtain ⟨rfl, lt⟩ := range_at hx
    have ek : (0 : Int) + (i : Int) = ((i : Nat) : Int) := by omega
    rw [ek]
    refine (ask_turn (n := n) pk eo (by omega) (k := i) (by omega) v1 v3 v4).imp ?_
    rintro ⟨fl, env'⟩ h'' ⟨q1, we, m'⟩
    have we : ∀ i, i ≠ 5 → i ≠ 6 → env' i = env i := we
    exact ⟨q1, (we 1 (by omega) (by omega)).trans v1, (we 3 (by omega) (by omega)).trans v3, (we 4 (by omega) (by omega)).trans v4, a'.mod m' (fun z => z) (fun z => z)⟩
  rintro ⟨fl, env⟩ h11 ⟨rfl, _, _, _, wk12⟩
  simp
  exact q _ _ ⟨rfl, wk12⟩
theorem c_law {ns : List Int} (hl : ns.length ≤ 63) : Run (prg.call (n + 16) f_law [.rol (ns.map W.int)] []) fun r _ => r = .bl true := by
  refine run_q fun Q q => ?_
  rw [u_law]
  simp [b_law]
  refine run_bind (c_draws (n := n + 14) (many := 2400) hl (by decide) (by decide)) ?_
  rintro _ h1 ⟨d, b, rfl, ⟨ds, hd, hn0, _⟩, hr, m1⟩
  simp
  have wk : WOk (hn h1 (.dct [(.inr sDraws, .ref d), (.inr sAt, .int 0)])) (nx h1 0) d := ⟨ds, 0, by simp, by simp [hd], hn0, by omega⟩
  generalize nx h1 0 = w at *
  refine run_bind (c_asks (n := n) wk) ?_
  rintro _ h2 ⟨rfl, wk2⟩
  simp
  refine run_bind (c_asks (n := n) wk2) ?_
  rintro _ h3 ⟨rfl, wk3⟩
  simp
  exact q _ _ rfl
end
theorem law_true (ns : List Int) (hl : ns.length ≤ 63) : ∃ h, prg.call 16 f_law [.rol (ns.map W.int)] [] = .ok (.bl true) h := by
  obtain ⟨a, h, e, rfl⟩ := c_law (n := 0) hl
  exact ⟨h, e⟩
end Nw

set_option Elab.async false
set_option linter.all false
set_option maxRecDepth 100000
set_option maxHeartbeats 0
/-! Printed by end.py: the program's top; the law. -/
namespace Nw
open PySem PySem.Spec PyProof.Rows L2
theorem mths_at {ds : List DefI} {l : Mths} (ok : mthsB ds l = true) {c : Nat} {m : Str} {f : Nat} (h : mget l c m = some f) : ∃ d, ds[f]? = some d ∧ d.own = some (c, m) := by
  have q := List.all_eq_true.mp ok _ (mget_mem h)
  simp only at q
  split at q
  · rename_i d hd; exact ⟨d, hd, of_decide_eq_true q⟩
  · cases q
theorem top_mk {K : PySem.W.Frag} {h : Heap} {mg : Str → Option Value} (X : K.In h) (G : h.Ns mainGlobals mg)
    {f0 f1 f2 f3 f4 f5 f6 f7 f8 f9 f10 f11 f12 f13 f14 f15 f16 f17 f18 f19 f20 f21 f22 f23 f24 f25 f26 f27 f28 f29 f30 f31 f32 f33 f34 f35 f36 : Addr} {od0 an0 od1 an1 od2 an2 od3 an3 od4 an4 od5 an5 od6 an6 od7 an7 od8 an8 od9 an9 od10 an10 od11 an11 od12 an12 od13 an13 od14 an14 od15 an15 od16 an16 od17 an17 od18 an18 od19 an19 od20 an20 od21 an21 od22 an22 od23 an23 od24 an24 od25 an25 od26 an26 od27 an27 od28 an28 od29 an29 od30 an30 od31 an31 od32 an32 od33 an33 od34 an34 od35 an35 od36 an36 : Option Addr} {sl0 sl1 sl2 sl3 sl4 sl5 sl6 sl7 sl8 sl9 sl10 sl11 sl12 sl13 sl14 sl15 sl16 sl17 sl18 sl19 sl20 sl21 sl22 sl23 sl24 sl25 sl26 sl27 sl28 sl29 sl30 sl31 sl32 sl33 sl34 sl35 sl36 : Array (Option Value)} {oc0 kV0 dc0 pm0 cd0 ct0 oc1 kV1 dc1 pm1 cd1 ct1 oc2 kV2 dc2 pm2 cd2 ct2 oc3 kV3 dc3 pm3 cd3 ct3 oc4 kV4 dc4 pm4 cd4 ct4 oc5 kV5 dc5 pm5 cd5 ct5 oc6 kV6 dc6 pm6 cd6 ct6 oc7 kV7 dc7 pm7 cd7 ct7 oc8 kV8 dc8 pm8 cd8 ct8 oc9 kV9 dc9 pm9 cd9 ct9 oc10 kV10 dc10 pm10 cd10 ct10 oc11 kV11 dc11 pm11 cd11 ct11 oc12 kV12 dc12 pm12 cd12 ct12 oc13 kV13 dc13 pm13 cd13 ct13 oc14 kV14 dc14 pm14 cd14 ct14 oc15 kV15 dc15 pm15 cd15 ct15 oc16 kV16 dc16 pm16 cd16 ct16 oc17 kV17 dc17 pm17 cd17 ct17 oc18 kV18 dc18 pm18 cd18 ct18 oc19 kV19 dc19 pm19 cd19 ct19 oc20 kV20 dc20 pm20 cd20 ct20 oc21 kV21 dc21 pm21 cd21 ct21 oc22 kV22 dc22 pm22 cd22 ct22 oc23 kV23 dc23 pm23 cd23 ct23 oc24 kV24 dc24 pm24 cd24 ct24 oc25 kV25 dc25 pm25 cd25 ct25 oc26 kV26 dc26 pm26 cd26 ct26 oc27 kV27 dc27 pm27 cd27 ct27 oc28 kV28 dc28 pm28 cd28 ct28 oc29 kV29 dc29 pm29 cd29 ct29 oc30 kV30 dc30 pm30 cd30 ct30 oc31 kV31 dc31 pm31 cd31 ct31 oc32 kV32 dc32 pm32 cd32 ct32 oc33 kV33 dc33 pm33 cd33 ct33 oc34 kV34 dc34 pm34 cd34 ct34 oc35 kV35 dc35 pm35 cd35 ct35 oc36 kV36 dc36 pm36 cd36 ct36 : Value}
    (a0 : PySem.W.nsIn K mainGlobals "names_of" = some (some (.ref f0)))
    (l0 : K.lookup f0 = some ⟨oc0, od0, .func (PySem.W.fnOf "names_of" "names_of" (defArgs (topS 1)) (defBody (topS 1)) (defScope (topS 1)) .none kV0 dc0 pm0 an0 cd0 ct0), sl0⟩)
    (c0 : PySem.W.codeIn K cd0 "names_of" = true)
    (k0 : PySem.W.keepIn K (.ref f0) = true)
    (a1 : PySem.W.nsIn K mainGlobals "channels_to" = some (some (.ref f1)))
    (l1 : K.lookup f1 = some ⟨oc1, od1, .func (PySem.W.fnOf "channels_to" "channels_to" (defArgs (topS 2)) (defBody (topS 2)) (defScope (topS 2)) .none kV1 dc1 pm1 an1 cd1 ct1), sl1⟩)
    (c1 : PySem.W.codeIn K cd1 "channels_to" = true)
    (k1 : PySem.W.keepIn K (.ref f1) = true)
    (a2 : PySem.W.nsIn K mainGlobals "teller" = some (some (.ref f2)))
    (l2 : K.lookup f2 = some ⟨oc2, od2, .func (PySem.W.fnOf "teller" "teller" (defArgs (topS 3)) (defBody (topS 3)) (defScope (topS 3)) .none kV2 dc2 pm2 an2 cd2 ct2), sl2⟩)
    (c2 : PySem.W.codeIn K cd2 "teller" = true)
    (k2 : PySem.W.keepIn K (.ref f2) = true)
    (a3 : PySem.W.nsIn K mainGlobals "hears" = some (some (.ref f3)))
    (l3 : K.lookup f3 = some ⟨oc3, od3, .func (PySem.W.fnOf "hears" "hears" (defArgs (topS 4)) (defBody (topS 4)) (defScope (topS 4)) .none kV3 dc3 pm3 an3 cd3 ct3), sl3⟩)
    (c3 : PySem.W.codeIn K cd3 "hears" = true)
    (k3 : PySem.W.keepIn K (.ref f3) = true)
    (a4 : PySem.W.nsIn K mainGlobals "heard_in" = some (some (.ref f4)))
    (l4 : K.lookup f4 = some ⟨oc4, od4, .func (PySem.W.fnOf "heard_in" "heard_in" (defArgs (topS 6)) (defBody (topS 6)) (defScope (topS 6)) .none kV4 dc4 pm4 an4 cd4 ct4), sl4⟩)
    (c4 : PySem.W.codeIn K cd4 "heard_in" = true)
    (k4 : PySem.W.keepIn K (.ref f4) = true)
    (a5 : PySem.W.nsIn K mainGlobals "heard" = some (some (.ref f5)))
    (l5 : K.lookup f5 = some ⟨oc5, od5, .func (PySem.W.fnOf "heard" "heard" (defArgs (topS 7)) (defBody (topS 7)) (defScope (topS 7)) .none kV5 dc5 pm5 an5 cd5 ct5), sl5⟩)
    (c5 : PySem.W.codeIn K cd5 "heard" = true)
    (k5 : PySem.W.keepIn K (.ref f5) = true)
    (a6 : PySem.W.nsIn K mainGlobals "_law_draws" = some (some (.ref f6)))
    (l6 : K.lookup f6 = some ⟨oc6, od6, .func (PySem.W.fnOf "_law_draws" "_law_draws" (defArgs (topS 9)) (defBody (topS 9)) (defScope (topS 9)) .none kV6 dc6 pm6 an6 cd6 ct6), sl6⟩)
    (c6 : PySem.W.codeIn K cd6 "_law_draws" = true)
    (k6 : PySem.W.keepIn K (.ref f6) = true)
    (a7 : PySem.W.nsIn K mainGlobals "_law_next" = some (some (.ref f7)))
    (l7 : K.lookup f7 = some ⟨oc7, od7, .func (PySem.W.fnOf "_law_next" "_law_next" (defArgs (topS 10)) (defBody (topS 10)) (defScope (topS 10)) .none kV7 dc7 pm7 an7 cd7 ct7), sl7⟩)
    (c7 : PySem.W.codeIn K cd7 "_law_next" = true)
    (k7 : PySem.W.keepIn K (.ref f7) = true)
    (a8 : PySem.W.nsIn K mainGlobals "_law_pick" = some (some (.ref f8)))
    (l8 : K.lookup f8 = some ⟨oc8, od8, .func (PySem.W.fnOf "_law_pick" "_law_pick" (defArgs (topS 11)) (defBody (topS 11)) (defScope (topS 11)) .none kV8 dc8 pm8 an8 cd8 ct8), sl8⟩)
    (c8 : PySem.W.codeIn K cd8 "_law_pick" = true)
    (k8 : PySem.W.keepIn K (.ref f8) = true)
    (a9 : PySem.W.nsIn K mainGlobals "_law_word" = some (some (.ref f9)))
    (l9 : K.lookup f9 = some ⟨oc9, od9, .func (PySem.W.fnOf "_law_word" "_law_word" (defArgs (topS 12)) (defBody (topS 12)) (defScope (topS 12)) .none kV9 dc9 pm9 an9 cd9 ct9), sl9⟩)
    (c9 : PySem.W.codeIn K cd9 "_law_word" = true)
    (k9 : PySem.W.keepIn K (.ref f9) = true)
    (a10 : PySem.W.nsIn K mainGlobals "_law_signs" = some (some (.ref f10)))
    (l10 : K.lookup f10 = some ⟨oc10, od10, .func (PySem.W.fnOf "_law_signs" "_law_signs" (defArgs (topS 13)) (defBody (topS 13)) (defScope (topS 13)) .none kV10 dc10 pm10 an10 cd10 ct10), sl10⟩)
    (c10 : PySem.W.codeIn K cd10 "_law_signs" = true)
    (k10 : PySem.W.keepIn K (.ref f10) = true)
    (a11 : PySem.W.nsIn K mainGlobals "_law_operate" = some (some (.ref f11)))
    (l11 : K.lookup f11 = some ⟨oc11, od11, .func (PySem.W.fnOf "_law_operate" "_law_operate" (defArgs (topS 14)) (defBody (topS 14)) (defScope (topS 14)) .none kV11 dc11 pm11 an11 cd11 ct11), sl11⟩)
    (c11 : PySem.W.codeIn K cd11 "_law_operate" = true)
    (k11 : PySem.W.keepIn K (.ref f11) = true)
    (a12 : PySem.W.nsIn K mainGlobals "_law_number" = some (some (.ref f12)))
    (l12 : K.lookup f12 = some ⟨oc12, od12, .func (PySem.W.fnOf "_law_number" "_law_number" (defArgs (topS 15)) (defBody (topS 15)) (defScope (topS 15)) .none kV12 dc12 pm12 an12 cd12 ct12), sl12⟩)
    (c12 : PySem.W.codeIn K cd12 "_law_number" = true)
    (k12 : PySem.W.keepIn K (.ref f12) = true)
    (a13 : PySem.W.nsIn K mainGlobals "_law_code_word" = some (some (.ref f13)))
    (l13 : K.lookup f13 = some ⟨oc13, od13, .func (PySem.W.fnOf "_law_code_word" "_law_code_word" (defArgs (topS 16)) (defBody (topS 16)) (defScope (topS 16)) .none kV13 dc13 pm13 an13 cd13 ct13), sl13⟩)
    (c13 : PySem.W.codeIn K cd13 "_law_code_word" = true)
    (k13 : PySem.W.keepIn K (.ref f13) = true)
    (a14 : PySem.W.nsIn K mainGlobals "_law_machine" = some (some (.ref f14)))
    (l14 : K.lookup f14 = some ⟨oc14, od14, .func (PySem.W.fnOf "_law_machine" "_law_machine" (defArgs (topS 17)) (defBody (topS 17)) (defScope (topS 17)) .none kV14 dc14 pm14 an14 cd14 ct14), sl14⟩)
    (c14 : PySem.W.codeIn K cd14 "_law_machine" = true)
    (k14 : PySem.W.keepIn K (.ref f14) = true)
    (a15 : PySem.W.nsIn K mainGlobals "_law_met" = some (some (.ref f15)))
    (l15 : K.lookup f15 = some ⟨oc15, od15, .func (PySem.W.fnOf "_law_met" "_law_met" (defArgs (topS 18)) (defBody (topS 18)) (defScope (topS 18)) .none kV15 dc15 pm15 an15 cd15 ct15), sl15⟩)
    (c15 : PySem.W.codeIn K cd15 "_law_met" = true)
    (k15 : PySem.W.keepIn K (.ref f15) = true)
    (a16 : PySem.W.nsIn K mainGlobals "_law_told" = some (some (.ref f16)))
    (l16 : K.lookup f16 = some ⟨oc16, od16, .func (PySem.W.fnOf "_law_told" "_law_told" (defArgs (topS 19)) (defBody (topS 19)) (defScope (topS 19)) .none kV16 dc16 pm16 an16 cd16 ct16), sl16⟩)
    (c16 : PySem.W.codeIn K cd16 "_law_told" = true)
    (k16 : PySem.W.keepIn K (.ref f16) = true)
    (a17 : PySem.W.nsIn K mainGlobals "_law_instruction" = some (some (.ref f17)))
    (l17 : K.lookup f17 = some ⟨oc17, od17, .func (PySem.W.fnOf "_law_instruction" "_law_instruction" (defArgs (topS 20)) (defBody (topS 20)) (defScope (topS 20)) .none kV17 dc17 pm17 an17 cd17 ct17), sl17⟩)
    (c17 : PySem.W.codeIn K cd17 "_law_instruction" = true)
    (k17 : PySem.W.keepIn K (.ref f17) = true)
    (a18 : PySem.W.nsIn K mainGlobals "_law_reach" = some (some (.ref f18)))
    (l18 : K.lookup f18 = some ⟨oc18, od18, .func (PySem.W.fnOf "_law_reach" "_law_reach" (defArgs (topS 22)) (defBody (topS 22)) (defScope (topS 22)) .none kV18 dc18 pm18 an18 cd18 ct18), sl18⟩)
    (c18 : PySem.W.codeIn K cd18 "_law_reach" = true)
    (k18 : PySem.W.keepIn K (.ref f18) = true)
    (a19 : PySem.W.nsIn K mainGlobals "_law_piece" = some (some (.ref f19)))
    (l19 : K.lookup f19 = some ⟨oc19, od19, .func (PySem.W.fnOf "_law_piece" "_law_piece" (defArgs (topS 23)) (defBody (topS 23)) (defScope (topS 23)) .none kV19 dc19 pm19 an19 cd19 ct19), sl19⟩)
    (c19 : PySem.W.codeIn K cd19 "_law_piece" = true)
    (k19 : PySem.W.keepIn K (.ref f19) = true)
    (a20 : PySem.W.nsIn K mainGlobals "_law_guest" = some (some (.ref f20)))
    (l20 : K.lookup f20 = some ⟨oc20, od20, .func (PySem.W.fnOf "_law_guest" "_law_guest" (defArgs (topS 24)) (defBody (topS 24)) (defScope (topS 24)) .none kV20 dc20 pm20 an20 cd20 ct20), sl20⟩)
    (c20 : PySem.W.codeIn K cd20 "_law_guest" = true)
    (k20 : PySem.W.keepIn K (.ref f20) = true)
    (a21 : PySem.W.nsIn K mainGlobals "_law_frames" = some (some (.ref f21)))
    (l21 : K.lookup f21 = some ⟨oc21, od21, .func (PySem.W.fnOf "_law_frames" "_law_frames" (defArgs (topS 25)) (defBody (topS 25)) (defScope (topS 25)) .none kV21 dc21 pm21 an21 cd21 ct21), sl21⟩)
    (c21 : PySem.W.codeIn K cd21 "_law_frames" = true)
    (k21 : PySem.W.keepIn K (.ref f21) = true)
    (a22 : PySem.W.nsIn K mainGlobals "_law_worst" = some (some (.ref f22)))
    (l22 : K.lookup f22 = some ⟨oc22, od22, .func (PySem.W.fnOf "_law_worst" "_law_worst" (defArgs (topS 26)) (defBody (topS 26)) (defScope (topS 26)) .none kV22 dc22 pm22 an22 cd22 ct22), sl22⟩)
    (c22 : PySem.W.codeIn K cd22 "_law_worst" = true)
    (k22 : PySem.W.keepIn K (.ref f22) = true)
    (a23 : PySem.W.nsIn K mainGlobals "_law_plan" = some (some (.ref f23)))
    (l23 : K.lookup f23 = some ⟨oc23, od23, .func (PySem.W.fnOf "_law_plan" "_law_plan" (defArgs (topS 27)) (defBody (topS 27)) (defScope (topS 27)) .none kV23 dc23 pm23 an23 cd23 ct23), sl23⟩)
    (c23 : PySem.W.codeIn K cd23 "_law_plan" = true)
    (k23 : PySem.W.keepIn K (.ref f23) = true)
    (a24 : PySem.W.nsIn K mainGlobals "_law_hears" = some (some (.ref f24)))
    (l24 : K.lookup f24 = some ⟨oc24, od24, .func (PySem.W.fnOf "_law_hears" "_law_hears" (defArgs (topS 28)) (defBody (topS 28)) (defScope (topS 28)) .none kV24 dc24 pm24 an24 cd24 ct24), sl24⟩)
    (c24 : PySem.W.codeIn K cd24 "_law_hears" = true)
    (k24 : PySem.W.keepIn K (.ref f24) = true)
    (a25 : PySem.W.nsIn K mainGlobals "_law_system" = some (some (.ref f25)))
    (l25 : K.lookup f25 = some ⟨oc25, od25, .func (PySem.W.fnOf "_law_system" "_law_system" (defArgs (topS 29)) (defBody (topS 29)) (defScope (topS 29)) .none kV25 dc25 pm25 an25 cd25 ct25), sl25⟩)
    (c25 : PySem.W.codeIn K cd25 "_law_system" = true)
    (k25 : PySem.W.keepIn K (.ref f25) = true)
    (a26 : PySem.W.nsIn K mainGlobals "_law_bring" = some (some (.ref f26)))
    (l26 : K.lookup f26 = some ⟨oc26, od26, .func (PySem.W.fnOf "_law_bring" "_law_bring" (defArgs (topS 30)) (defBody (topS 30)) (defScope (topS 30)) .none kV26 dc26 pm26 an26 cd26 ct26), sl26⟩)
    (c26 : PySem.W.codeIn K cd26 "_law_bring" = true)
    (k26 : PySem.W.keepIn K (.ref f26) = true)
    (a27 : PySem.W.nsIn K mainGlobals "_law_meet" = some (some (.ref f27)))
    (l27 : K.lookup f27 = some ⟨oc27, od27, .func (PySem.W.fnOf "_law_meet" "_law_meet" (defArgs (topS 31)) (defBody (topS 31)) (defScope (topS 31)) .none kV27 dc27 pm27 an27 cd27 ct27), sl27⟩)
    (c27 : PySem.W.codeIn K cd27 "_law_meet" = true)
    (k27 : PySem.W.keepIn K (.ref f27) = true)
    (a28 : PySem.W.nsIn K mainGlobals "_law_wait" = some (some (.ref f28)))
    (l28 : K.lookup f28 = some ⟨oc28, od28, .func (PySem.W.fnOf "_law_wait" "_law_wait" (defArgs (topS 32)) (defBody (topS 32)) (defScope (topS 32)) .none kV28 dc28 pm28 an28 cd28 ct28), sl28⟩)
    (c28 : PySem.W.codeIn K cd28 "_law_wait" = true)
    (k28 : PySem.W.keepIn K (.ref f28) = true)
    (a29 : PySem.W.nsIn K mainGlobals "_law_answer" = some (some (.ref f29)))
    (l29 : K.lookup f29 = some ⟨oc29, od29, .func (PySem.W.fnOf "_law_answer" "_law_answer" (defArgs (topS 33)) (defBody (topS 33)) (defScope (topS 33)) .none kV29 dc29 pm29 an29 cd29 ct29), sl29⟩)
    (c29 : PySem.W.codeIn K cd29 "_law_answer" = true)
    (k29 : PySem.W.keepIn K (.ref f29) = true)
    (a30 : PySem.W.nsIn K mainGlobals "_law_step" = some (some (.ref f30)))
    (l30 : K.lookup f30 = some ⟨oc30, od30, .func (PySem.W.fnOf "_law_step" "_law_step" (defArgs (topS 34)) (defBody (topS 34)) (defScope (topS 34)) .none kV30 dc30 pm30 an30 cd30 ct30), sl30⟩)
    (c30 : PySem.W.codeIn K cd30 "_law_step" = true)
    (k30 : PySem.W.keepIn K (.ref f30) = true)
    (a31 : PySem.W.nsIn K mainGlobals "_law_slot" = some (some (.ref f31)))
    (l31 : K.lookup f31 = some ⟨oc31, od31, .func (PySem.W.fnOf "_law_slot" "_law_slot" (defArgs (topS 35)) (defBody (topS 35)) (defScope (topS 35)) .none kV31 dc31 pm31 an31 cd31 ct31), sl31⟩)
    (c31 : PySem.W.codeIn K cd31 "_law_slot" = true)
    (k31 : PySem.W.keepIn K (.ref f31) = true)
    (a32 : PySem.W.nsIn K mainGlobals "_law_run_plan" = some (some (.ref f32)))
    (l32 : K.lookup f32 = some ⟨oc32, od32, .func (PySem.W.fnOf "_law_run_plan" "_law_run_plan" (defArgs (topS 36)) (defBody (topS 36)) (defScope (topS 36)) .none kV32 dc32 pm32 an32 cd32 ct32), sl32⟩)
    (c32 : PySem.W.codeIn K cd32 "_law_run_plan" = true)
    (k32 : PySem.W.keepIn K (.ref f32) = true)
    (a33 : PySem.W.nsIn K mainGlobals "_law_same" = some (some (.ref f33)))
    (l33 : K.lookup f33 = some ⟨oc33, od33, .func (PySem.W.fnOf "_law_same" "_law_same" (defArgs (topS 37)) (defBody (topS 37)) (defScope (topS 37)) .none kV33 dc33 pm33 an33 cd33 ct33), sl33⟩)
    (c33 : PySem.W.codeIn K cd33 "_law_same" = true)
    (k33 : PySem.W.keepIn K (.ref f33) = true)
    (a34 : PySem.W.nsIn K mainGlobals "_law_heard" = some (some (.ref f34)))
    (l34 : K.lookup f34 = some ⟨oc34, od34, .func (PySem.W.fnOf "_law_heard" "_law_heard" (defArgs (topS 38)) (defBody (topS 38)) (defScope (topS 38)) .none kV34 dc34 pm34 an34 cd34 ct34), sl34⟩)
    (c34 : PySem.W.codeIn K cd34 "_law_heard" = true)
    (k34 : PySem.W.keepIn K (.ref f34) = true)
    (a35 : PySem.W.nsIn K mainGlobals "_law_asks" = some (some (.ref f35)))
    (l35 : K.lookup f35 = some ⟨oc35, od35, .func (PySem.W.fnOf "_law_asks" "_law_asks" (defArgs (topS 39)) (defBody (topS 39)) (defScope (topS 39)) .none kV35 dc35 pm35 an35 cd35 ct35), sl35⟩)
    (c35 : PySem.W.codeIn K cd35 "_law_asks" = true)
    (k35 : PySem.W.keepIn K (.ref f35) = true)
    (a36 : PySem.W.nsIn K mainGlobals "law" = some (some (.ref f36)))
    (l36 : K.lookup f36 = some ⟨oc36, od36, .func (PySem.W.fnOf "law" "law" (defArgs (topS 40)) (defBody (topS 40)) (defScope (topS 40)) .none kV36 dc36 pm36 an36 cd36 ct36), sl36⟩)
    (c36 : PySem.W.codeIn K cd36 "law" = true)
    (k36 : PySem.W.keepIn K (.ref f36) = true)
    (z0 : PySem.W.nsIn K mainGlobals "len" = some none)
    (z1 : PySem.W.nsIn K mainGlobals "abs" = some none)
    (z2 : PySem.W.nsIn K mainGlobals "int" = some none)
    (z3 : PySem.W.nsIn K mainGlobals "str" = some none)
    (z4 : PySem.W.nsIn K mainGlobals "list" = some none)
    (z5 : PySem.W.nsIn K mainGlobals "tuple" = some none)
    (z6 : PySem.W.nsIn K mainGlobals "max" = some none)
    (z7 : PySem.W.nsIn K mainGlobals "min" = some none)
    (z8 : PySem.W.nsIn K mainGlobals "sum" = some none)
    (z9 : PySem.W.nsIn K mainGlobals "sorted" = some none)
    (z10 : PySem.W.nsIn K mainGlobals "repr" = some none)
    (z11 : PySem.W.nsIn K mainGlobals "all" = some none)
    (z12 : PySem.W.nsIn K mainGlobals "range" = some none)
    (z13 : PySem.W.nsIn K mainGlobals "isinstance" = some none)
    (z14 : PySem.W.nsIn K mainGlobals "bool" = some none)
    (z15 : PySem.W.nsIn K mainGlobals "dict" = some none)
    : ∃ cl, Top prg ds clsN K mg cl := by
  have F0 := fun_mk (st := topS 1) l0 c0 k0
  have b0 := F0.binds (ps := ["plan"]) fun _ _ _ _ _ _ us hl => match us, hl with | [_], _ => rfl
  have F1 := fun_mk (st := topS 2) l1 c1 k1
  have b1 := F1.binds (ps := ["plan", "g"]) fun _ _ _ _ _ _ us hl => match us, hl with | [_, _], _ => rfl
  have F2 := fun_mk (st := topS 3) l2 c2 k2
  have b2 := F2.binds (ps := ["plan", "channel"]) fun _ _ _ _ _ _ us hl => match us, hl with | [_, _], _ => rfl
  have F3 := fun_mk (st := topS 4) l3 c3 k3
  have b3 := F3.binds (ps := ["plan", "g"]) fun _ _ _ _ _ _ us hl => match us, hl with | [_, _], _ => rfl
  have F4 := fun_mk (st := topS 6) l4 c4 k4
  have b4 := F4.binds (ps := ["plan", "entry", "known"]) fun _ _ _ _ _ _ us hl => match us, hl with | [_, _, _], _ => rfl
  have F5 := fun_mk (st := topS 7) l5 c5 k5
  have b5 := F5.binds (ps := ["plan", "entries"]) fun _ _ _ _ _ _ us hl => match us, hl with | [_, _], _ => rfl
  have F6 := fun_mk (st := topS 9) l6 c6 k6
  have b6 := F6.binds (ps := ["script", "many"]) fun _ _ _ _ _ _ us hl => match us, hl with | [_, _], _ => rfl
  have F7 := fun_mk (st := topS 10) l7 c7 k7
  have b7 := F7.binds (ps := ["w", "many"]) fun _ _ _ _ _ _ us hl => match us, hl with | [_, _], _ => rfl
  have F8 := fun_mk (st := topS 11) l8 c8 k8
  have b8 := F8.binds (ps := ["w", "rows"]) fun _ _ _ _ _ _ us hl => match us, hl with | [_, _], _ => rfl
  have F9 := fun_mk (st := topS 12) l9 c9 k9
  have b9 := F9.binds (ps := ["w"]) fun _ _ _ _ _ _ us hl => match us, hl with | [_], _ => rfl
  have F10 := fun_mk (st := topS 13) l10 c10 k10
  have b10 := F10.binds (ps := []) fun _ _ _ _ _ _ us hl => match us, hl with | [], _ => rfl
  have F11 := fun_mk (st := topS 14) l11 c11 k11
  have b11 := F11.binds (ps := ["sign", "a", "b"]) fun _ _ _ _ _ _ us hl => match us, hl with | [_, _, _], _ => rfl
  have F12 := fun_mk (st := topS 15) l12 c12 k12
  have b12 := F12.binds (ps := ["kind"]) fun _ _ _ _ _ _ us hl => match us, hl with | [_], _ => rfl
  have F13 := fun_mk (st := topS 16) l13 c13 k13
  have b13 := F13.binds (ps := ["row"]) fun _ _ _ _ _ _ us hl => match us, hl with | [_], _ => rfl
  have F14 := fun_mk (st := topS 17) l14 c14 k14
  have b14 := F14.binds (ps := ["guest", "answers"]) fun _ _ _ _ _ _ us hl => match us, hl with | [_, _], _ => rfl
  have F15 := fun_mk (st := topS 18) l15 c15 k15
  have b15 := F15.binds (ps := ["m", "row"]) fun _ _ _ _ _ _ us hl => match us, hl with | [_, _], _ => rfl
  have F16 := fun_mk (st := topS 19) l16 c16 k16
  have b16 := F16.binds (ps := ["m", "row"]) fun _ _ _ _ _ _ us hl => match us, hl with | [_, _], _ => rfl
  have F17 := fun_mk (st := topS 20) l17 c17 k17
  have b17 := F17.binds (ps := ["m", "row"]) fun _ _ _ _ _ _ us hl => match us, hl with | [_, _], _ => rfl
  have F18 := fun_mk (st := topS 22) l18 c18 k18
  have b18 := F18.binds (ps := ["w", "code", "size"]) fun _ _ _ _ _ _ us hl => match us, hl with | [_, _, _], _ => rfl
  have F19 := fun_mk (st := topS 23) l19 c19 k19
  have b19 := F19.binds (ps := ["w", "code", "size"]) fun _ _ _ _ _ _ us hl => match us, hl with | [_, _, _], _ => rfl
  have F20 := fun_mk (st := topS 24) l20 c20 k20
  have b20 := F20.binds (ps := ["w"]) fun _ _ _ _ _ _ us hl => match us, hl with | [_], _ => rfl
  have F21 := fun_mk (st := topS 25) l21 c21 k21
  have b21 := F21.binds (ps := ["plan"]) fun _ _ _ _ _ _ us hl => match us, hl with | [_], _ => rfl
  have F22 := fun_mk (st := topS 26) l22 c22 k22
  have b22 := F22.binds (ps := ["ticks"]) fun _ _ _ _ _ _ us hl => match us, hl with | [_], _ => rfl
  have F23 := fun_mk (st := topS 27) l23 c23 k23
  have b23 := F23.binds (ps := ["w", "quiet", "many"]) fun _ _ _ _ _ _ us hl => match us, hl with | [_, _, _], _ => rfl
  have F24 := fun_mk (st := topS 28) l24 c24 k24
  have b24 := F24.binds (ps := ["plan", "g"]) fun _ _ _ _ _ _ us hl => match us, hl with | [_, _], _ => rfl
  have F25 := fun_mk (st := topS 29) l25 c25 k25
  have b25 := F25.binds (ps := ["plan", "guests"]) fun _ _ _ _ _ _ us hl => match us, hl with | [_, _], _ => rfl
  have F26 := fun_mk (st := topS 30) l26 c26 k26
  have b26 := F26.binds (ps := ["y", "m", "page"]) fun _ _ _ _ _ _ us hl => match us, hl with | [_, _, _], _ => rfl
  have F27 := fun_mk (st := topS 31) l27 c27 k27
  have b27 := F27.binds (ps := ["y", "m", "address"]) fun _ _ _ _ _ _ us hl => match us, hl with | [_, _, _], _ => rfl
  have F28 := fun_mk (st := topS 32) l28 c28 k28
  have b28 := F28.binds (ps := ["y", "k", "word"]) fun _ _ _ _ _ _ us hl => match us, hl with | [_, _, _], _ => rfl
  have F29 := fun_mk (st := topS 33) l29 c29 k29
  have b29 := F29.binds (ps := ["y", "m", "row", "clock"]) fun _ _ _ _ _ _ us hl => match us, hl with | [_, _, _, _], _ => rfl
  have F30 := fun_mk (st := topS 34) l30 c30 k30
  have b30 := F30.binds (ps := ["y", "m", "clock"]) fun _ _ _ _ _ _ us hl => match us, hl with | [_, _, _], _ => rfl
  have F31 := fun_mk (st := topS 35) l31 c31 k31
  have b31 := F31.binds (ps := ["y"]) fun _ _ _ _ _ _ us hl => match us, hl with | [_], _ => rfl
  have F32 := fun_mk (st := topS 36) l32 c32 k32
  have b32 := F32.binds (ps := ["plan", "guests", "many"]) fun _ _ _ _ _ _ us hl => match us, hl with | [_, _, _], _ => rfl
  have F33 := fun_mk (st := topS 37) l33 c33 k33
  have b33 := F33.binds (ps := ["told", "due"]) fun _ _ _ _ _ _ us hl => match us, hl with | [_, _], _ => rfl
  have F34 := fun_mk (st := topS 38) l34 c34 k34
  have b34 := F34.binds (ps := ["plan", "entries"]) fun _ _ _ _ _ _ us hl => match us, hl with | [_, _], _ => rfl
  have F35 := fun_mk (st := topS 39) l35 c35 k35
  have b35 := F35.binds (ps := ["w"]) fun _ _ _ _ _ _ us hl => match us, hl with | [_], _ => rfl
  have F36 := fun_mk (st := topS 40) l36 c36 k36
  have b36 := F36.binds (ps := ["script"]) fun _ _ _ _ _ _ us hl => match us, hl with | [_], _ => rfl
  refine ⟨fun c => [][c]?, ⟨fun i d hd => ?_, fun x hx => ?_, fun x w hx => ?_, fun c x hx => ?_, fun c A hc => ?_, fun c A f hc hf => ?_, fun c m f hm => mths_at mths_ok hm⟩⟩
  · match i, hd with
    | 0, rfl => exact ⟨f0, _, PySem.W.mg_of X G a0, F0, b0⟩
    | 1, rfl => exact ⟨f1, _, PySem.W.mg_of X G a1, F1, b1⟩
    | 2, rfl => exact ⟨f2, _, PySem.W.mg_of X G a2, F2, b2⟩
    | 3, rfl => exact ⟨f3, _, PySem.W.mg_of X G a3, F3, b3⟩
    | 4, rfl => exact ⟨f4, _, PySem.W.mg_of X G a4, F4, b4⟩
    | 5, rfl => exact ⟨f5, _, PySem.W.mg_of X G a5, F5, b5⟩
    | 6, rfl => exact ⟨f6, _, PySem.W.mg_of X G a6, F6, b6⟩
    | 7, rfl => exact ⟨f7, _, PySem.W.mg_of X G a7, F7, b7⟩
    | 8, rfl => exact ⟨f8, _, PySem.W.mg_of X G a8, F8, b8⟩
    | 9, rfl => exact ⟨f9, _, PySem.W.mg_of X G a9, F9, b9⟩
    | 10, rfl => exact ⟨f10, _, PySem.W.mg_of X G a10, F10, b10⟩
    | 11, rfl => exact ⟨f11, _, PySem.W.mg_of X G a11, F11, b11⟩
    | 12, rfl => exact ⟨f12, _, PySem.W.mg_of X G a12, F12, b12⟩
    | 13, rfl => exact ⟨f13, _, PySem.W.mg_of X G a13, F13, b13⟩
    | 14, rfl => exact ⟨f14, _, PySem.W.mg_of X G a14, F14, b14⟩
    | 15, rfl => exact ⟨f15, _, PySem.W.mg_of X G a15, F15, b15⟩
    | 16, rfl => exact ⟨f16, _, PySem.W.mg_of X G a16, F16, b16⟩
    | 17, rfl => exact ⟨f17, _, PySem.W.mg_of X G a17, F17, b17⟩
    | 18, rfl => exact ⟨f18, _, PySem.W.mg_of X G a18, F18, b18⟩
    | 19, rfl => exact ⟨f19, _, PySem.W.mg_of X G a19, F19, b19⟩
    | 20, rfl => exact ⟨f20, _, PySem.W.mg_of X G a20, F20, b20⟩
    | 21, rfl => exact ⟨f21, _, PySem.W.mg_of X G a21, F21, b21⟩
    | 22, rfl => exact ⟨f22, _, PySem.W.mg_of X G a22, F22, b22⟩
    | 23, rfl => exact ⟨f23, _, PySem.W.mg_of X G a23, F23, b23⟩
    | 24, rfl => exact ⟨f24, _, PySem.W.mg_of X G a24, F24, b24⟩
    | 25, rfl => exact ⟨f25, _, PySem.W.mg_of X G a25, F25, b25⟩
    | 26, rfl => exact ⟨f26, _, PySem.W.mg_of X G a26, F26, b26⟩
    | 27, rfl => exact ⟨f27, _, PySem.W.mg_of X G a27, F27, b27⟩
    | 28, rfl => exact ⟨f28, _, PySem.W.mg_of X G a28, F28, b28⟩
    | 29, rfl => exact ⟨f29, _, PySem.W.mg_of X G a29, F29, b29⟩
    | 30, rfl => exact ⟨f30, _, PySem.W.mg_of X G a30, F30, b30⟩
    | 31, rfl => exact ⟨f31, _, PySem.W.mg_of X G a31, F31, b31⟩
    | 32, rfl => exact ⟨f32, _, PySem.W.mg_of X G a32, F32, b32⟩
    | 33, rfl => exact ⟨f33, _, PySem.W.mg_of X G a33, F33, b33⟩
    | 34, rfl => exact ⟨f34, _, PySem.W.mg_of X G a34, F34, b34⟩
    | 35, rfl => exact ⟨f35, _, PySem.W.mg_of X G a35, F35, b35⟩
    | 36, rfl => exact ⟨f36, _, PySem.W.mg_of X G a36, F36, b36⟩
    | _ + 37, hd => simp [ds] at hd
  · simp only [bltNames, List.mem_cons, List.not_mem_nil, or_false] at hx
    rcases hx with rfl | rfl | rfl | rfl | rfl | rfl | rfl | rfl | rfl | rfl | rfl | rfl | rfl | rfl | rfl | rfl
    · exact PySem.W.mg_none_of X G z0
    · exact PySem.W.mg_none_of X G z1
    · exact PySem.W.mg_none_of X G z2
    · exact PySem.W.mg_none_of X G z3
    · exact PySem.W.mg_none_of X G z4
    · exact PySem.W.mg_none_of X G z5
    · exact PySem.W.mg_none_of X G z6
    · exact PySem.W.mg_none_of X G z7
    · exact PySem.W.mg_none_of X G z8
    · exact PySem.W.mg_none_of X G z9
    · exact PySem.W.mg_none_of X G z10
    · exact PySem.W.mg_none_of X G z11
    · exact PySem.W.mg_none_of X G z12
    · exact PySem.W.mg_none_of X G z13
    · exact PySem.W.mg_none_of X G z14
    · exact PySem.W.mg_none_of X G z15
  · change fget globs x = some w at hx
    simp only [globs, fget] at hx
    cases hx
  · match c, hx with
    | _ + 0, hx => simp [clsN] at hx
  · match c, hc with
    | _ + 0, hc => simp at hc
  · have hf := fokF_mem hf
    simp only [fldL, List.mem_cons, List.not_mem_nil, or_false, Prod.mk.injEq] at hf
end Nw
open PySem PySem.W PyProof.Rows
set_option maxRecDepth 100000 in
set_option maxHeartbeats 0 in
theorem PySem.Challenge.cw_nowhisper_k75_what_was_heard_holds : PySem.Challenge.rw_nowhisper_k75_what_was_heard.Holds := by
  w_on; o_law; k_head; (case hw => w_witness2)
  k_fill
  refine Nw.law_walk (l := PySem.Challenge.rw_nowhisper_k75_what_was_heard) (P := Nw.prg) (ds := Nw.ds) (cs := Nw.clsN) (n := 16) (i := 36) (D := ⟨"law", none, "law", Nw.topS 40, ["script", "w"], ["script"]⟩) rfl rfl (fun w h Y => PySem.W.kIn_of Y) ⟨rfl, by decide, by decide⟩ Nw.ds_ok rfl rfl rfl rfl Nw.law_true ?T ?B
  case B =>
    intro w fd f F s u
    obtain ⟨_, _, _, _, _, _, _, _, _, rfl, _, _⟩ := F.ex
    exact .of_eq rfl
  case T =>
    intro w mg h KX G
    refine' Nw.top_mk KX G ?q_a0 ?q_l0 ?q_c0 ?q_k0 ?q_a1 ?q_l1 ?q_c1 ?q_k1 ?q_a2 ?q_l2 ?q_c2 ?q_k2 ?q_a3 ?q_l3 ?q_c3 ?q_k3 ?q_a4 ?q_l4 ?q_c4 ?q_k4 ?q_a5 ?q_l5 ?q_c5 ?q_k5 ?q_a6 ?q_l6 ?q_c6 ?q_k6 ?q_a7 ?q_l7 ?q_c7 ?q_k7 ?q_a8 ?q_l8 ?q_c8 ?q_k8 ?q_a9 ?q_l9 ?q_c9 ?q_k9 ?q_a10 ?q_l10 ?q_c10 ?q_k10 ?q_a11 ?q_l11 ?q_c11 ?q_k11 ?q_a12 ?q_l12 ?q_c12 ?q_k12 ?q_a13 ?q_l13 ?q_c13 ?q_k13 ?q_a14 ?q_l14 ?q_c14 ?q_k14 ?q_a15 ?q_l15 ?q_c15 ?q_k15 ?q_a16 ?q_l16 ?q_c16 ?q_k16 ?q_a17 ?q_l17 ?q_c17 ?q_k17 ?q_a18 ?q_l18 ?q_c18 ?q_k18 ?q_a19 ?q_l19 ?q_c19 ?q_k19 ?q_a20 ?q_l20 ?q_c20 ?q_k20 ?q_a21 ?q_l21 ?q_c21 ?q_k21 ?q_a22 ?q_l22 ?q_c22 ?q_k22 ?q_a23 ?q_l23 ?q_c23 ?q_k23 ?q_a24 ?q_l24 ?q_c24 ?q_k24 ?q_a25 ?q_l25 ?q_c25 ?q_k25 ?q_a26 ?q_l26 ?q_c26 ?q_k26 ?q_a27 ?q_l27 ?q_c27 ?q_k27 ?q_a28 ?q_l28 ?q_c28 ?q_k28 ?q_a29 ?q_l29 ?q_c29 ?q_k29 ?q_a30 ?q_l30 ?q_c30 ?q_k30 ?q_a31 ?q_l31 ?q_c31 ?q_k31 ?q_a32 ?q_l32 ?q_c32 ?q_k32 ?q_a33 ?q_l33 ?q_c33 ?q_k33 ?q_a34 ?q_l34 ?q_c34 ?q_k34 ?q_a35 ?q_l35 ?q_c35 ?q_k35 ?q_a36 ?q_l36 ?q_c36 ?q_k36 ?q_z0 ?q_z1 ?q_z2 ?q_z3 ?q_z4 ?q_z5 ?q_z6 ?q_z7 ?q_z8 ?q_z9 ?q_z10 ?q_z11 ?q_z12 ?q_z13 ?q_z14 ?q_z15
    (case q_a0 => k_is)
    (case q_l0 => k_is)
    (case q_c0 => k_is)
    (case q_k0 => k_is)
    (case q_a1 => k_is)
    (case q_l1 => k_is)
    (case q_c1 => k_is)
    (case q_k1 => k_is)
    (case q_a2 => k_is)
    (case q_l2 => k_is)
    (case q_c2 => k_is)
    (case q_k2 => k_is)
    (case q_a3 => k_is)
    (case q_l3 => k_is)
    (case q_c3 => k_is)
    (case q_k3 => k_is)
    (case q_a4 => k_is)
    (case q_l4 => k_is)
    (case q_c4 => k_is)
    (case q_k4 => k_is)
    (case q_a5 => k_is)
    (case q_l5 => k_is)
    (case q_c5 => k_is)
    (case q_k5 => k_is)
    (case q_a6 => k_is)
    (case q_l6 => k_is)
    (case q_c6 => k_is)
    (case q_k6 => k_is)
    (case q_a7 => k_is)
    (case q_l7 => k_is)
    (case q_c7 => k_is)
    (case q_k7 => k_is)
    (case q_a8 => k_is)
    (case q_l8 => k_is)
    (case q_c8 => k_is)
    (case q_k8 => k_is)
    (case q_a9 => k_is)
    (case q_l9 => k_is)
    (case q_c9 => k_is)
    (case q_k9 => k_is)
    (case q_a10 => k_is)
    (case q_l10 => k_is)
    (case q_c10 => k_is)
    (case q_k10 => k_is)
    (case q_a11 => k_is)
    (case q_l11 => k_is)
    (case q_c11 => k_is)
    (case q_k11 => k_is)
    (case q_a12 => k_is)
    (case q_l12 => k_is)
    (case q_c12 => k_is)
    (case q_k12 => k_is)
    (case q_a13 => k_is)
    (case q_l13 => k_is)
    (case q_c13 => k_is)
    (case q_k13 => k_is)
    (case q_a14 => k_is)
    (case q_l14 => k_is)
    (case q_c14 => k_is)
    (case q_k14 => k_is)
    (case q_a15 => k_is)
    (case q_l15 => k_is)
    (case q_c15 => k_is)
    (case q_k15 => k_is)
    (case q_a16 => k_is)
    (case q_l16 => k_is)
    (case q_c16 => k_is)
    (case q_k16 => k_is)
    (case q_a17 => k_is)
    (case q_l17 => k_is)
    (case q_c17 => k_is)
    (case q_k17 => k_is)
    (case q_a18 => k_is)
    (case q_l18 => k_is)
    (case q_c18 => k_is)
    (case q_k18 => k_is)
    (case q_a19 => k_is)
    (case q_l19 => k_is)
    (case q_c19 => k_is)
    (case q_k19 => k_is)
    (case q_a20 => k_is)
    (case q_l20 => k_is)
    (case q_c20 => k_is)
    (case q_k20 => k_is)
    (case q_a21 => k_is)
    (case q_l21 => k_is)
    (case q_c21 => k_is)
    (case q_k21 => k_is)
    (case q_a22 => k_is)
    (case q_l22 => k_is)
    (case q_c22 => k_is)
    (case q_k22 => k_is)
    (case q_a23 => k_is)
    (case q_l23 => k_is)
    (case q_c23 => k_is)
    (case q_k23 => k_is)
    (case q_a24 => k_is)
    (case q_l24 => k_is)
    (case q_c24 => k_is)
    (case q_k24 => k_is)
    (case q_a25 => k_is)
    (case q_l25 => k_is)
    (case q_c25 => k_is)
    (case q_k25 => k_is)
    (case q_a26 => k_is)
    (case q_l26 => k_is)
    (case q_c26 => k_is)
    (case q_k26 => k_is)
    (case q_a27 => k_is)
    (case q_l27 => k_is)
    (case q_c27 => k_is)
    (case q_k27 => k_is)
    (case q_a28 => k_is)
    (case q_l28 => k_is)
    (case q_c28 => k_is)
    (case q_k28 => k_is)
    (case q_a29 => k_is)
    (case q_l29 => k_is)
    (case q_c29 => k_is)
    (case q_k29 => k_is)
    (case q_a30 => k_is)
    (case q_l30 => k_is)
    (case q_c30 => k_is)
    (case q_k30 => k_is)
    (case q_a31 => k_is)
    (case q_l31 => k_is)
    (case q_c31 => k_is)
    (case q_k31 => k_is)
    (case q_a32 => k_is)
    (case q_l32 => k_is)
    (case q_c32 => k_is)
    (case q_k32 => k_is)
    (case q_a33 => k_is)
    (case q_l33 => k_is)
    (case q_c33 => k_is)
    (case q_k33 => k_is)
    (case q_a34 => k_is)
    (case q_l34 => k_is)
    (case q_c34 => k_is)
    (case q_k34 => k_is)
    (case q_a35 => k_is)
    (case q_l35 => k_is)
    (case q_c35 => k_is)
    (case q_k35 => k_is)
    (case q_a36 => k_is)
    (case q_l36 => k_is)
    (case q_c36 => k_is)
    (case q_k36 => k_is)
    (case q_z0 => k_is)
    (case q_z1 => k_is)
    (case q_z2 => k_is)
    (case q_z3 => k_is)
    (case q_z4 => k_is)
    (case q_z5 => k_is)
    (case q_z6 => k_is)
    (case q_z7 => k_is)
    (case q_z8 => k_is)
    (case q_z9 => k_is)
    (case q_z10 => k_is)
    (case q_z11 => k_is)
    (case q_z12 => k_is)
    (case q_z13 => k_is)
    (case q_z14 => k_is)
    (case q_z15 => k_is)
#print axioms PySem.Challenge.cw_nowhisper_k75_what_was_heard_holds

