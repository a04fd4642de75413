import PyProof.Rows.All
import Wide.All
import OpenK.AllK
import Wide.FinOn
import HandS.ForMost
import HandS.Wide
import HandS.TupAny
import HandS.TupMul
import HandS.IsInst
import HandS.DeepEq
import HandS.Deep
import HandS.Flow
import HandS.Style
import HandS.SetFor
import HandS.Small
import PySem.Challenge.RW_nowhisper_k77_callers_and_listeners
set_option Elab.async false
set_option linter.all false
set_option maxRecDepth 100000
/-! Nw, part A: a small evaluator of Python over plain values (tuples as values) and a list of objects. -/
namespace Nw
open PySem PySem.Spec PyProof.Rows L2

/-- a text by its code points -/
def S (l : List Nat) : Str := ⟨l.toArray⟩
theorem S_inj {a b : List Nat} : S a = S b ↔ a = b := by
  constructor
  · intro h
    have := congrArg (fun s : Str => s.cps.toList) h
    simpa [S] using this
  · rintro rfl; rfl

inductive W where
  | non | bl (b : Bool) | int (i : Int) | str (s : Str) | tup (ws : List W) | rol (ws : List W) | ref (r : Nat)
  deriving Inhabited

inductive O where
  | lst (ws : List W) | dct (kvs : List (Key × W)) | ins (c : Nat) (fs : List (Str × W))

abbrev VH := List O
abbrev Env := Nat → Option W

inductive R (α : Type) where
  | ok (a : α) (h : VH) | bad

def R.bind {α β : Type} (r : R α) (f : α → VH → R β) : R β := match r with | .ok a h => f a h | .bad => .bad
theorem R.bind_ok {α β : Type} (a : α) (h : VH) (f : α → VH → R β) : (R.ok a h).bind f = f a h := rfl
theorem R.bind_bad {α β : Type} (f : α → VH → R β) : (R.bad : R α).bind f = .bad := rfl
theorem R.bind_eq {α β : Type} {r : R α} {f : α → VH → R β} {b : β} {h : VH} (e : r.bind f = .ok b h) : ∃ a h1, r = .ok a h1 ∧ f a h1 = .ok b h := by
  cases r with
  | ok a h1 => exact ⟨a, h1, rfl, e⟩
  | bad => cases e

inductive Bop where | add | sub | mul | fdiv | mod | pow | shl | shr | band | bor | bxor
  deriving DecidableEq
inductive Cop where | eq | ne | lt | le | gt | ge | is | isn | isin | notin
  deriving DecidableEq
inductive IK where | plain | range | zip
  deriving DecidableEq
inductive TN where | nm (i : Nat) | tp (ts : List TN)
inductive Bi where | len | abs | int | str | list | tuple | max | min | sum | sorted | repr | all
  deriving DecidableEq
inductive Ty where | tuple | list | str | int | bool | dict
  deriving DecidableEq

inductive E where
  | var (i : Nat)
  | cst (w : W)
  | gl (x : Str)
  | bin (o : Bop) (a b : E)
  | neg (a : E)
  | nt (a : E)
  | cmp (o : Cop) (a b : E)
  | chn (o p : Cop) (a b c : E)
  | and (es : List E)
  | or (es : List E)
  | ite (c a b : E)
  | tup (es : List E)
  | lst (es : List E)
  | dct (ks : List Key) (es : List E)
  | ix (a b : E)
  | sl (a : E) (lo hi : Option E)
  | rev (a : E)
  | call (f : Nat) (es : List E)
  | bi (f : Bi) (es : List E)
  | isi (a : E) (t : Ty)
  | mth (o : E) (m : Str) (es : List E)
  | fld (o : E) (f : Str)
  | lc (elt : E) (own : List Nat) (tg : TN) (k : IK) (it : List E) (cs : List E)

inductive Tg where | nm (i : Nat) | tp (ts : List Tg) | sub (o i : E) | att (o : E) (f : Str)

inductive Sm where
  | ex (e : E)
  | set (t : Tg) (e : E)
  | augN (i : Nat) (o : Bop) (e : E)
  | augS (o i : E) (p : Bop) (e : E)
  | augA (o : E) (f : Str) (p : Bop) (e : E)
  | ret (e : Option E)
  | ife (c : E) (a b : List Sm)
  | whl (c : E) (b : List Sm)
  | for (t : TN) (k : IK) (it : List E) (b : List Sm)
  | pass | brk | cont

structure Cfg where
  call : Nat → List W → VH → R W
  meth : Nat → Str → Option Nat
  glob : Str → Option W
  M : Nat

abbrev line : Nat := 16777216

/-! ### values -/
def keyW : W → Option Key
  | .int i => some (.inl i)
  | .str s => some (.inr s)
  | _ => none
def dget : List (Key × W) → Key → Option W
  | [], _ => none
  | (k, v) :: r, j => if k = j then some v else dget r j
def dset (l : List (Key × W)) (k : Key) (w : W) : List (Key × W) :=
  if (l.any fun p => decide (p.1 = k)) = true then l.map (fun p => if p.1 = k then (p.1, w) else p) else l ++ [(k, w)]
def fget : List (Str × W) → Str → Option W
  | [], _ => none
  | (k, v) :: r, j => if k = j then some v else fget r j
def fset : List (Str × W) → Str → W → List (Str × W)
  | [], j, w => [(j, w)]
  | (k, v) :: r, j, w => if k = j then (k, w) :: r else (k, v) :: fset r j w
/-- a list or tuple's place -/
def atW (ws : List W) (i : Int) : Option W := if 0 ≤ i then ws[i.toNat]? else if -(ws.length : Int) ≤ i then ws[(i + ws.length).toNat]? else none
def cut {α : Type} (ws : List α) (lo hi : Option Int) : List α := (ws.drop (HT.sIx ws.length 0 lo)).take (HT.sIx ws.length ws.length hi - HT.sIx ws.length 0 lo)

def listAt (h : VH) (r : Nat) : Option (List W) := match h[r]? with | some (.lst ws) => some ws | _ => none
/-- the items of a list or tuple -/
def seqOf (h : VH) : W → Option (List W)
  | .tup ws => some ws
  | .rol ws => some ws
  | .ref r => listAt h r
  | _ => none
def truW (h : VH) : W → Option Bool
  | .non => some false
  | .bl b => some b
  | .int i => some (i != 0)
  | .str s => if s.length ≤ line then some ((s.length : Int) != 0) else none
  | .tup ws => some (!ws.isEmpty)
  | .rol ws => some (!ws.isEmpty)
  | .ref r => match h[r]? with
    | some (.lst ws) => some (!ws.isEmpty)
    | some (.dct kvs) => some (!kvs.isEmpty)
    | _ => none
mutual
def datP : W → Option PyData
  | .non => some .none
  | .bl b => some (.bool b)
  | .int i => some (.int i)
  | .str s => if s.cps.all (· < 0x110000) then some (.str s) else none
  | .tup ws => (datPs ws).map .tuple
  | .rol ws => (datPs ws).map .list
  | .ref _ => none
def datPs : List W → Option (List PyData)
  | [] => some []
  | w :: ws => match datP w, datPs ws with | some d, some ds => some (d :: ds) | _, _ => none
end
def allSome {α β : Type} (f : α → Option β) : List α → Option (List β)
  | [] => some []
  | a :: r => match f a, allSome f r with | some b, some bs => some (b :: bs) | _, _ => none
/-- lists down to depth n -/
def datW (h : VH) : Nat → W → Option PyData
  | 0, w => datP w
  | n + 1, .ref r => match listAt h r with | some ws => (allSome (datW h n) ws).map .list | none => none
  | n + 1, .tup ws => (allSome (datW h n) ws).map .tuple
  | n + 1, .rol ws => (allSome (datW h n) ws).map .list
  | _ + 1, w => datP w
def eqD (h : VH) (a b : W) : Option Bool := match datW h 12 a, datW h 12 b with
  | some d, some e => if SeqAt.shaped d = true ∧ SeqAt.shaped e = true then some (PyData.eqv d e) else none
  | _, _ => none
def eqW (h : VH) (a b : W) : Option Bool := match a, b with
  | .int i, .int j => some (decide (i = j))
  | .str i, .str j => some (decide (i = j))
  | .bl i, .bl j => some (decide (i = j))
  | a, b => eqD h a b
def flatW : W → Bool
  | .non => true
  | .bl _ => true
  | .int _ => true
  | .str _ => true
  | _ => false
/-- == of flat values -/
def eqF : W → W → Bool
  | .non, .non => true
  | .bl a, .bl b => a == b
  | .bl a, .int b => (if a then 1 else 0) == b
  | .int a, .bl b => a == (if b then 1 else 0)
  | .int a, .int b => a == b
  | .str a, .str b => a == b
  | _, _ => false

def ok? {α : Type} (o : Option α) (h : VH) : R α := match o with | some a => .ok a h | none => .bad
def new (o : O) (h : VH) : R W := .ok (.ref h.length) (h ++ [o])
def newL (ws : List W) (h : VH) : R W := if ws.length ≤ line then new (.lst ws) h else .bad

/-! ### operators -/
def addW (a b : W) (h : VH) : R W := match a, b with
  | .int i, .int j => .ok (.int (i + j)) h
  | .str x, .str y => if x.length + y.length ≤ line then .ok (.str (x ++ y)) h else .bad
  | .tup x, .tup y => if x.length + y.length ≤ line then .ok (.tup (x ++ y)) h else .bad
  | .ref r, .ref q => match h[r]?, h[q]? with
    | some (.lst x), some (.lst y) => if x.length + y.length ≤ line then new (.lst (x ++ y)) h else .bad
    | _, _ => .bad
  | _, _ => .bad
def mulOk (i j : Int) : Bool := i.natAbs < 2 ^ 60 || j.natAbs < 2 ^ 60
def mulW (a b : W) (h : VH) : R W := match a, b with
  | .int i, .int j => if mulOk i j then .ok (.int (i * j)) h else .bad
  | .ref r, .int j => match h[r]? with
    | some (.lst x) => if j < 2 ^ 30 ∧ -(2 ^ 30) < j ∧ x.length * j.toNat ≤ line then new (.lst (List.replicate j.toNat x).flatten) h else .bad
    | _ => .bad
  | .tup x, .int j => if x ≠ [] ∧ 2 ≤ j ∧ j ≤ 1000 ∧ x.length ≤ 1000 then .ok (.tup (List.replicate j.toNat x).flatten) h else .bad
  | _, _ => .bad
def binI : Bop → Int → Int → Option Int
  | .sub, i, j => some (i - j)
  | .fdiv, i, j => if 0 < j ∧ j < 2 ^ 100 then some (i / j) else none
  | .mod, i, j => if 0 < j then some (i % j) else none
  | .pow, i, j => if 0 ≤ j ∧ j ≤ 1000 ∧ i.natAbs < 2 ^ 60 then some (i ^ j.toNat) else none
  | .shl, i, j => if 0 ≤ j ∧ j ≤ 1000 ∧ i.natAbs < 2 ^ 60 then some (i * 2 ^ j.toNat) else none
  | .shr, i, j => if 0 ≤ j then some (i / 2 ^ j.toNat) else none
  | .band, i, j => some (Builtin.bitAnd i j)
  | .bor, i, j => some (Builtin.bitOr i j)
  | .bxor, i, j => some (Builtin.bitXor i j)
  | .add, _, _ => none
  | .mul, _, _ => none
def int2 (f : Int → Int → Option Int) (a b : W) (h : VH) : R W := match a, b with
  | .int i, .int j => (match f i j with | some k => .ok (.int k) h | none => .bad)
  | _, _ => .bad
def binW (o : Bop) (a b : W) (h : VH) : R W := match o with
  | .add => addW a b h
  | .mul => mulW a b h
  | o => int2 (binI o) a b h
/-- x in y -/
def inF (a : W) (ws : List W) : Option Bool := if flatW a = true ∧ ws.all flatW = true then some (ws.any fun y => eqF y a) else none
def inD (h : VH) (a : W) (ws : List W) : Option Bool := match datW h 12 a, allSome (datW h 11) ws with
  | some d, some ds => if SeqAt.shaped d = true ∧ SeqAt.shaped (.list ds) = true then some (ds.any fun z => PyData.eqv z d) else none
  | _, _ => none
def inL (h : VH) (a : W) (ws : List W) : Option Bool := match inF a ws with | some b => some b | none => inD h a ws
def inW (h : VH) (a b : W) : Option Bool := match b with
  | .tup ws => inF a ws
  | .rol ws => inL h a ws
  | .ref r => match h[r]? with
    | some (.dct kvs) => (keyW a).map fun k => (dget kvs k).isSome
    | some (.lst ws) => inL h a ws
    | _ => none
  | _ => none
def cmpW (o : Cop) (a b : W) (h : VH) : Option Bool := match o with
  | .eq => eqW h a b
  | .ne => (eqW h a b).map (!·)
  | .lt => match a, b with | .int i, .int j => some (decide (i < j)) | _, _ => none
  | .le => match a, b with | .int i, .int j => some (decide (i ≤ j)) | _, _ => none
  | .gt => match a, b with | .int i, .int j => some (decide (j < i)) | _, _ => none
  | .ge => match a, b with | .int i, .int j => some (decide (j ≤ i)) | _, _ => none
  | .is => match a, b with | .non, .non => some true | _, .non => some false | .bl x, .bl y => some (x == y) | _, _ => none
  | .isn => match a, b with | .non, .non => some false | _, .non => some true | .bl x, .bl y => some (!(x == y)) | _, _ => none
  | .isin => inW h a b
  | .notin => (inW h a b).map (!·)
def tyW (h : VH) : W → Option Ty
  | .bl _ => some .bool
  | .int _ => some .int
  | .str _ => some .str
  | .tup _ => some .tuple
  | .rol _ => some .list
  | .ref r => match h[r]? with
    | some (.lst _) => some .list
    | some (.dct _) => some .dict
    | _ => none
  | .non => none
/-- isinstance: a bool is an int; None is none of these -/
def isiW (h : VH) (t : Ty) : W → Option Bool
  | .non => some false
  | .bl _ => some (t == .bool || t == .int)
  | w => (tyW h w).map (· == t)

def ixW (h : VH) (a b : W) : Option W := match a, b with
  | .tup ws, .int i => atW ws i
  | .rol ws, .int i => atW ws i
  | .ref r, k => match h[r]? with
    | some (.dct kvs) => match keyW k with | some k => dget kvs k | none => none
    | some (.lst ws) => match k with | .int i => atW ws i | _ => none
    | _ => none
  | _, _ => none
def slW (a : W) (lo hi : Option Int) (h : VH) : R W := match a with
  | .tup ws => .ok (.tup (cut ws lo hi)) h
  | .rol ws => new (.lst (cut ws lo hi)) h
  | .ref r => match listAt h r with | some ws => new (.lst (cut ws lo hi)) h | none => .bad
  | _ => .bad
def revW (a : W) (h : VH) : R W := match a with
  | .tup ws => .ok (.tup ws.reverse) h
  | .ref r => match h[r]? with | some (.lst ws) => new (.lst ws.reverse) h | _ => .bad
  | _ => .bad
def intsOf : List W → Option (List Int)
  | [] => some []
  | .int i :: r => (intsOf r).map (i :: ·)
  | _ :: _ => none
def strsOf : List W → Option (List Str)
  | [] => some []
  | .str i :: r => (strsOf r).map (i :: ·)
  | _ :: _ => none
def blsOf : List W → Option (List Bool)
  | [] => some []
  | .bl i :: r => (blsOf r).map (i :: ·)
  | _ :: _ => none
def maxI : List Int → Int
  | [] => 0
  | a :: r => r.foldl max a
def minI : List Int → Int
  | [] => 0
  | a :: r => r.foldl min a
/-- the ints of a list -/
def intsAt (h : VH) : W → Option (List Int)
  | .rol ws => intsOf ws
  | .ref r => match listAt h r with | some ws => intsOf ws | none => none
  | _ => none
def biW (f : Bi) (as : List W) (h : VH) : R W := match f, as with
  | .len, [.str s] => if s.length ≤ line then .ok (.int s.length) h else .bad
  | .len, [.tup ws] => .ok (.int ws.length) h
  | .len, [.rol ws] => .ok (.int ws.length) h
  | .len, [.ref r] => match h[r]? with
    | some (.lst ws) => .ok (.int ws.length) h
    | some (.dct kvs) => .ok (.int kvs.length) h
    | _ => .bad
  | .abs, [.int i] => .ok (.int (if i < 0 then -i else i)) h
  | .int, [.int i] => .ok (.int i) h
  | .int, [.bl b] => .ok (.int (if b then 1 else 0)) h
  | .str, [.int i] => if i.natAbs < 2 ^ 64 then .ok (.str (toString i)) h else .bad
  | .list, [a] => match seqOf h a with | some ws => new (.lst ws) h | none => .bad
  | .tuple, [.tup ws] => .ok (.tup ws) h
  | .tuple, [a] => match seqOf h a with | some ws => .ok (.tup ws) h | none => .bad
  | .max, [.int i, .int j] => .ok (.int (if j > i then j else i)) h
  | .min, [.int i, .int j] => .ok (.int (if j < i then j else i)) h
  | .max, [a] => match intsAt h a with | some ns => if ns = [] then .bad else .ok (.int (maxI ns)) h | none => .bad
  | .min, [a] => match intsAt h a with | some ns => if ns = [] then .bad else .ok (.int (minI ns)) h | none => .bad
  | .sum, [a] => match intsAt h a with | some ns => .ok (.int ns.sum) h | none => .bad
  | .all, [.ref r] => match listAt h r with | some ws => (match blsOf ws with | some bs => .ok (.bl (bs.all id)) h | none => .bad) | none => .bad
  | _, _ => .bad
/-- a method of a list -/
def lmW (m : Str) (r : Nat) (as : List W) (h : VH) : R W := match h[r]? with
  | some (.lst ws) =>
    if m = S [97, 112, 112, 101, 110, 100] then match as with
      | [w] => if ws.length < line then .ok .non (h.set r (.lst (ws ++ [w]))) else .bad
      | _ => .bad
    else if m = S [101, 120, 116, 101, 110, 100] then match as with
      | [.ref q] => match h[q]? with | some (.lst zs) => if ws.length + zs.length ≤ line then .ok .non (h.set r (.lst (ws ++ zs))) else .bad | _ => .bad
      | _ => .bad
    else if m = S [112, 111, 112] then match as with
      | [] => if ws = [] then .bad else .ok (ws.getLast?.getD .non) (h.set r (.lst ws.dropLast))
      | [.int 0] => match ws with | w :: zs => .ok w (h.set r (.lst zs)) | [] => .bad
      | _ => .bad
    else if m = S [105, 110, 100, 101, 120] then match as with
      | [w] => if flatW w = true ∧ ws.all flatW = true then (match ws.findIdx? (fun y => eqF y w) with | some j => .ok (.int (j : Nat)) h | none => .bad) else .bad
      | _ => .bad
    else if m = S [99, 111, 117, 110, 116] then match as with
      | [w] => if flatW w = true ∧ ws.all flatW = true then .ok (.int (ws.countP (fun y => eqF y w) : Nat)) h else .bad
      | _ => .bad
    else .bad
  | _ => .bad

inductive Its where | ws (l : List W) | live (r : Nat)
def itLen (h : VH) : Its → Nat
  | .ws l => l.length
  | .live r => match listAt h r with | some ws => ws.length | none => 0
/-- turn i: none: bad; some none: at the end -/
def itAt (h : VH) (i : Nat) : Its → Option (Option W)
  | .ws l => some l[i]?
  | .live r => match listAt h r with | some ws => some ws[i]? | none => none
def rangeW (lo hi : Int) : List W := (List.range (hi - lo).toNat).map fun (k : Nat) => .int (lo + k)
def rangeS (lo hi st : Int) : List W := (List.range (Builtin.Range.rangeSize lo hi st).toNat).map fun (k : Nat) => .int (lo + k * st)
def inI (i : Int) : Bool := -(2 ^ 61) ≤ i ∧ i < 2 ^ 61
def zipW : List W → List W → List W
  | a :: x, b :: y => .tup [a, b] :: zipW x y
  | _, _ => []
/-- a text's signs -/
def strW (s : Str) : List W := s.cps.toList.map fun c => .str ⟨#[c]⟩
def itsOf (k : IK) (as : List W) (h : VH) : R Its := match k, as with
  | .plain, [.tup ws] => .ok (.ws ws) h
  | .plain, [.rol ws] => .ok (.ws ws) h
  | .plain, [.str s] => .ok (.ws (strW s)) h
  | .plain, [.ref r] => match listAt h r with | some _ => .ok (.live r) h | none => .bad
  | .range, [.int j] => if inI j then .ok (.ws (rangeW 0 j)) h else .bad
  | .range, [.int i, .int j] => if inI i ∧ inI j then .ok (.ws (rangeW i j)) h else .bad
  | .range, [.int i, .int j, .int s] => if s ≠ 0 ∧ s.natAbs < 1073741824 ∧ Builtin.Range.small i j s = true then .ok (.ws (rangeS i j s)) h else .bad
  | .zip, [.tup x, .tup y] => .ok (.ws (zipW x y)) h
  | _, _ => .bad

def setv (env : Env) (i : Nat) (w : W) : Env := fun j => if j = i then some w else env j
def wipeE (env : Env) (own : List Nat) : Env := fun j => if j ∈ own then none else env j
mutual
def bindT : TN → W → Env → Option Env
  | .nm i, w, env => some (setv env i w)
  | .tp ts, .tup ws, env => bindTs ts ws env
  | .tp _, _, _ => none
def bindTs : List TN → List W → Env → Option Env
  | [], [], env => some env
  | t :: ts, w :: ws, env => match bindT t w env with | some e => bindTs ts ws e | none => none
  | _, _, _ => none
end

/-- the loop of a comprehension: f gives none where a test is false -/
def lcRun (its : Its) (f : W → VH → R (Option W)) : Nat → Nat → List W → VH → R (List W)
  | 0, _, _, _ => .bad
  | n + 1, i, acc, h => match itAt h i its with
    | none => .bad
    | some none => .ok acc h
    | some (some w) => (f w h).bind fun r h1 => match r with
      | none => lcRun its f n (i + 1) acc h1
      | some x => if acc.length < line then lcRun its f n (i + 1) (acc ++ [x]) h1 else .bad

section
variable (C : Cfg)
mutual
def evE : E → Env → VH → R W
  | .var i, env, h => ok? (env i) h
  | .cst w, _, h => .ok w h
  | .gl x, _, h => ok? (C.glob x) h
  | .bin o a b, env, h => (evE a env h).bind fun x h1 => (evE b env h1).bind fun y h2 => binW o x y h2
  | .neg a, env, h => (evE a env h).bind fun x h1 => match x with | .int i => .ok (.int (-i)) h1 | _ => .bad
  | .nt a, env, h => (evE a env h).bind fun x h1 => (ok? (truW h1 x) h1).bind fun b h2 => .ok (.bl (!b)) h2
  | .cmp o a b, env, h => (evE a env h).bind fun x h1 => (evE b env h1).bind fun y h2 => (ok? (cmpW o x y h2) h2).bind fun k h3 => .ok (.bl k) h3
  | .chn o p a b c, env, h => (evE a env h).bind fun x h1 => (evE b env h1).bind fun y h2 => (ok? (cmpW o x y h2) h2).bind fun k h3 =>
      if k then (evE c env h3).bind fun z h4 => (ok? (cmpW p y z h4) h4).bind fun k h5 => .ok (.bl k) h5 else .ok (.bl false) h3
  | .and es, env, h => evAnd es env h
  | .or es, env, h => evOr es env h
  | .ite c a b, env, h => (evE c env h).bind fun x h1 => (ok? (truW h1 x) h1).bind fun k h2 => if k then evE a env h2 else evE b env h2
  | .tup es, env, h => (evEs es env h).bind fun ws h1 => if ws.length ≤ line then .ok (.tup ws) h1 else .bad
  | .lst es, env, h => (evEs es env h).bind fun ws h1 => newL ws h1
  | .dct ks es, env, h => (evEs es env h).bind fun ws h1 => if ks.length = ws.length ∧ ks.length ≤ 15 then new (.dct ((ks.zip ws).foldl (fun a p => dset a p.1 p.2) [])) h1 else .bad
  | .ix a b, env, h => (evE a env h).bind fun x h1 => (evE b env h1).bind fun y h2 => ok? (ixW h2 x y) h2
  | .sl a lo hi, env, h => (evE a env h).bind fun x h1 => (evO lo env h1).bind fun l h2 => (evO hi env h2).bind fun u h3 => slW x l u h3
  | .rev a, env, h => (evE a env h).bind fun x h1 => revW x h1
  | .call f es, env, h => (evEs es env h).bind fun ws h1 => C.call f ws h1
  | .bi f es, env, h => (evEs es env h).bind fun ws h1 => biW f ws h1
  | .isi a t, env, h => (evE a env h).bind fun x h1 => (ok? (isiW h1 t x) h1).bind fun k h2 => .ok (.bl k) h2
  | .mth o m es, env, h => (evE o env h).bind fun x h1 => (evEs es env h1).bind fun ws h2 => match x with
      | .ref r => match h1[r]? with
        | some (.lst _) => lmW m r ws h2
        | some (.ins c _) => match C.meth c m with | some f => C.call f (x :: ws) h2 | none => .bad
        | _ => .bad
      | _ => .bad
  | .fld o f, env, h => (evE o env h).bind fun x h1 => match x with
      | .ref r => match h1[r]? with | some (.ins _ fs) => ok? (fget fs f) h1 | _ => .bad
      | _ => .bad
  | .lc elt own tg k it cs, env, h => (evEs it env h).bind fun ws h1 => (itsOf k ws h1).bind fun its h2 =>
      (lcRun its (fun w h => match bindT tg w (wipeE env own) with
        | none => .bad
        | some e => (evTs cs e h).bind fun b h => if b then (evE elt e h).bind fun x h => .ok (some x) h else .ok none h) (itLen h2 its + 1) 0 [] h2).bind fun acc h3 => newL acc h3
def evEs : List E → Env → VH → R (List W)
  | [], _, h => .ok [] h
  | e :: es, env, h => (evE e env h).bind fun x h1 => (evEs es env h1).bind fun xs h2 => .ok (x :: xs) h2
def evAnd : List E → Env → VH → R W
  | [], _, _ => .bad
  | [e], env, h => evE e env h
  | e :: e' :: es, env, h => (evE e env h).bind fun x h1 => (ok? (truW h1 x) h1).bind fun k h2 => if k then evAnd (e' :: es) env h2 else .ok x h2
def evOr : List E → Env → VH → R W
  | [], _, _ => .bad
  | [e], env, h => evE e env h
  | e :: e' :: es, env, h => (evE e env h).bind fun x h1 => (ok? (truW h1 x) h1).bind fun k h2 => if k then .ok x h2 else evOr (e' :: es) env h2
/-- tests behind one another: all are true -/
def evTs : List E → Env → VH → R Bool
  | [], _, h => .ok true h
  | e :: es, env, h => (evE e env h).bind fun x h1 => (ok? (truW h1 x) h1).bind fun k h2 => if k then evTs es env h2 else .ok false h2
def evO : Option E → Env → VH → R (Option Int)
  | none, _, h => .ok none h
  | some e, env, h => (evE e env h).bind fun x h1 => match x with | .int i => .ok (some i) h1 | _ => .bad
end
def evT (e : E) (env : Env) (h : VH) : R Bool := (evE C e env h).bind fun x h1 => ok? (truW h1 x) h1

/-- o[i] = w -/
def putW (o i w : W) (h : VH) : R Unit := match o with
  | .ref r => match h[r]? with
    | some (.lst ws) => match i with
      | .int j => if 0 ≤ j then (if j < ws.length then .ok () (h.set r (.lst (ws.set j.toNat w))) else .bad)
                  else if -(ws.length : Int) ≤ j then .ok () (h.set r (.lst (ws.set (j + ws.length).toNat w))) else .bad
      | _ => .bad
    | some (.dct kvs) => match keyW i with | some k => if kvs.length < line then .ok () (h.set r (.dct (dset kvs k w))) else .bad | none => .bad
    | _ => .bad
  | _ => .bad
def attW (o : W) (f : Str) (w : W) (h : VH) : R Unit := match o with
  | .ref r => match h[r]? with | some (.ins c fs) => if fs.length < 900 then .ok () (h.set r (.ins c (fset fs f w))) else .bad | _ => .bad
  | _ => .bad
mutual
def asT : Tg → W → Env → VH → R Env
  | .nm i, w, env, h => .ok (setv env i w) h
  | .tp ts, .tup ws, env, h => asTs ts ws env h
  | .tp _, _, _, _ => .bad
  | .sub o i, w, env, h => (evE C o env h).bind fun x h1 => (evE C i env h1).bind fun y h2 => (putW x y w h2).bind fun _ h3 => .ok env h3
  | .att o f, w, env, h => (evE C o env h).bind fun x h1 => (attW x f w h1).bind fun _ h2 => .ok env h2
def asTs : List Tg → List W → Env → VH → R Env
  | [], [], env, h => .ok env h
  | t :: ts, w :: ws, env, h => (asT t w env h).bind fun e h1 => asTs ts ws e h1
  | _, _, _, _ => .bad
end
/-- op= -/
def augW : Bop → W → W → VH → R W
  | .add, .int i, .int j, h => .ok (.int (i + j)) h
  | .sub, .int i, .int j, h => .ok (.int (i - j)) h
  | _, _, _, _ => .bad

inductive Fl where | nx | rt (w : W) | bk | ct

def forRun (its : Its) (f : W → Env → VH → R (Fl × Env)) : Nat → Nat → Env → VH → R (Fl × Env)
  | 0, _, _, _ => .bad
  | n + 1, i, env, h => match itAt h i its with
    | none => .bad
    | some none => .ok (.nx, env) h
    | some (some w) => (f w env h).bind fun r h1 => match r with
      | (.nx, e) => forRun its f n (i + 1) e h1
      | (.ct, e) => forRun its f n (i + 1) e h1
      | (.bk, e) => .ok (.nx, e) h1
      | (.rt v, e) => .ok (.rt v, e) h1
def whRun (c : Env → VH → R Bool) (f : Env → VH → R (Fl × Env)) : Nat → Env → VH → R (Fl × Env)
  | 0, _, _ => .bad
  | n + 1, env, h => (c env h).bind fun k h1 => if k then (f env h1).bind fun r h2 => match r with
      | (.nx, e) => whRun c f n e h2
      | (.ct, e) => whRun c f n e h2
      | (.bk, e) => .ok (.nx, e) h2
      | (.rt v, e) => .ok (.rt v, e) h2
    else .ok (.nx, env) h1

mutual
def evS : Sm → Env → VH → R (Fl × Env)
  | .ex e, env, h => (evE C e env h).bind fun _ h1 => .ok (.nx, env) h1
  | .set t e, env, h => (evE C e env h).bind fun x h1 => (asT C t x env h1).bind fun env' h2 => .ok (.nx, env') h2
  | .augN i o e, env, h => (ok? (env i) h).bind fun x h0 => (evE C e env h0).bind fun y h1 => (augW o x y h1).bind fun z h2 => .ok (.nx, setv env i z) h2
  | .augS o i p e, env, h => (evE C o env h).bind fun x h1 => (evE C i env h1).bind fun y h2 => (ok? (ixW h2 x y) h2).bind fun old h3 =>
      (evE C e env h3).bind fun w h4 => (augW p old w h4).bind fun z h5 => (putW x y z h5).bind fun _ h6 => .ok (.nx, env) h6
  | .augA o f p e, env, h => (evE C o env h).bind fun x h1 => match x with
      | .ref r => match h1[r]? with
        | some (.ins _ fs) => (ok? (fget fs f) h1).bind fun old h2 => (evE C e env h2).bind fun w h3 => (augW p old w h3).bind fun z h4 => (attW x f z h4).bind fun _ h5 => .ok (.nx, env) h5
        | _ => .bad
      | _ => .bad
  | .ret none, env, h => .ok (.rt .non, env) h
  | .ret (some e), env, h => (evE C e env h).bind fun x h1 => .ok (.rt x, env) h1
  | .ife c a b, env, h => (evT C c env h).bind fun k h1 => if k then evSs a env h1 else evSs b env h1
  | .whl c b, env, h => whRun (fun env h => evT C c env h) (fun env h => evSs b env h) C.M env h
  | .for t k it b, env, h => (evEs C it env h).bind fun ws h1 => (itsOf k ws h1).bind fun its h2 =>
      forRun its (fun w env h => match bindT t w env with | none => .bad | some e => evSs b e h) (itLen h2 its + 1) 0 env h2
  | .pass, env, h => .ok (.nx, env) h
  | .brk, env, h => .ok (.bk, env) h
  | .cont, env, h => .ok (.ct, env) h
def evSs : List Sm → Env → VH → R (Fl × Env)
  | [], env, h => .ok (.nx, env) h
  | s :: ss, env, h => (evS s env h).bind fun r h1 => match r with
    | (.nx, e) => evSs ss e h1
    | r => .ok r h1
end
end

/-- a def: how many parameters; its body -/
structure Fn where
  ps : Nat
  body : List Sm
def env0 (ws : List W) : Env := fun i => ws[i]?
def runFn (C : Cfg) (d : Fn) (ws : List W) (h : VH) : R W :=
  if ws.length = d.ps then (evSs C d.body (env0 ws) h).bind fun r h1 => match r.1 with
    | .rt w => .ok w h1
    | .nx => .ok .non h1
    | _ => .bad
  else .bad
structure Prog where
  fns : List Fn
  meth : Nat → Str → Option Nat
  glob : Str → Option W
  M : Nat
def Prog.call (P : Prog) : Nat → Nat → List W → VH → R W
  | 0, _, _, _ => .bad
  | n + 1, f, ws, h => match P.fns[f]? with | some d => runFn ⟨P.call n, P.meth, P.glob, P.M⟩ d ws h | none => .bad
abbrev Prog.cfg (P : Prog) (n : Nat) : Cfg := ⟨P.call n, P.meth, P.glob, P.M⟩
end Nw

set_option Elab.async false
set_option linter.all false
set_option maxRecDepth 100000
/-! Nw, part B: how the evaluator's values and objects stand in the layer's abstract heap. -/
namespace Nw
open PySem PySem.Spec PyProof.Rows L2

/-- a list that nobody writes -/
def RoL (K : PySem.W.Frag) (H : Hp) (a : Addr) (xs : List V) : Prop :=
  (∃ o, H a = some (.frz o (.lst xs))) ∨
    ∃ (o : Obj) (its : Array Value) (n : Nat), K.lookup a = some o ∧ o.cls = .type "list" ∧ o.dict = none ∧ o.data = .seq its n ∧ its.size ≤ sizeLine ∧ Vals xs its.toList
theorem RoL.sql {K : PySem.W.Frag} {H : Hp} {a : Addr} {xs : List V} (h : RoL K H a xs) : SqL K H a xs := by
  rcases h with ⟨o, h⟩ | h
  · exact .inl (.inr ⟨o, h⟩)
  · exact .inr h

section
variable (K : PySem.W.Frag)
mutual
def ValR (ρ : List Addr) (H : Hp) : W → V → Prop
  | .non, v => v = .non
  | .bl b, v => v = .bl b
  | .int i, v => v = .int i
  | .str s, v => v = .str s
  | .tup ws, v => ∃ a xs, v = .ref a ∧ SqT K H a xs ∧ ValsR ρ H ws xs
  | .rol ws, v => ∃ a xs, v = .ref a ∧ RoL K H a xs ∧ ValsR ρ H ws xs
  | .ref r, v => ∃ a, v = .ref a ∧ ρ[r]? = some a
def ValsR (ρ : List Addr) (H : Hp) : List W → List V → Prop
  | [], vs => vs = []
  | w :: ws, vs => ∃ x xs, vs = x :: xs ∧ ValR ρ H w x ∧ ValsR ρ H ws xs
end
def KvR {κ : Type} (ρ : List Addr) (H : Hp) : List (κ × W) → List (κ × V) → Prop
  | [], l => l = []
  | (k, w) :: r, l => ∃ x l', l = (k, x) :: l' ∧ ValR K ρ H w x ∧ KvR ρ H r l'
def ObjR (cl : Nat → Option Addr) (ρ : List Addr) (H : Hp) (a : Addr) : O → Prop
  | .lst ws => ∃ xs, H a = some (.lst xs) ∧ ValsR K ρ H ws xs
  | .dct kvs => ∃ l, H a = some (.dK l) ∧ KvR K ρ H kvs l
  | .ins c fs => ∃ C dx l, cl c = some C ∧ H a = some (.ins C dx l) ∧ KvR K ρ H fs l
structure Rel (cl : Nat → Option Addr) (ρ : List Addr) (vh : VH) (H : Hp) : Prop where
  len : ρ.length = vh.length
  obj : ∀ (r : Nat) (o : O) (a : Addr), vh[r]? = some o → ρ[r]? = some a → ObjR K cl ρ H a o
  inj : ∀ r r' a : Nat, ρ[r]? = some a → ρ[r']? = some a → r = r'
end
/-- what a step leaves as it was -/
structure Fr (ρ : List Addr) (H : Hp) (ρ' : List Addr) (H' : Hp) : Prop where
  pre : ∃ m, ρ' = ρ ++ m
  keep : ∀ a o, H a = some o → a ∉ ρ → H' a = some o ∧ a ∉ ρ'
theorem Fr.rfl' {ρ : List Addr} {H : Hp} : Fr ρ H ρ H := ⟨⟨[], by simp⟩, fun a o h n => ⟨h, n⟩⟩
theorem Fr.trans {ρ ρ1 ρ2 : List Addr} {H H1 H2 : Hp} (a : Fr ρ H ρ1 H1) (b : Fr ρ1 H1 ρ2 H2) : Fr ρ H ρ2 H2 := by
  refine ⟨?_, fun c o h n => ?_⟩
  · obtain ⟨m, e⟩ := a.pre
    obtain ⟨m', e'⟩ := b.pre
    exact ⟨m ++ m', by rw [e', e, List.append_assoc]⟩
  · obtain ⟨h1, n1⟩ := a.keep c o h n
    exact b.keep c o h1 n1
theorem Fr.get {ρ ρ' : List Addr} {H H' : Hp} (f : Fr ρ H ρ' H') {r : Nat} {a : Addr} (h : ρ[r]? = some a) : ρ'[r]? = some a := by
  obtain ⟨m, e⟩ := f.pre
  rw [e, List.getElem?_append_left (List.getElem?_eq_some_iff.mp h).1]; exact h

section
variable {K : PySem.W.Frag} {cl : Nat → Option Addr} {ρ ρ' : List Addr} {vh : VH} {H H' : Hp}
theorem Rel.track (R : Rel K cl ρ vh H) {a : Addr} (h : a ∈ ρ) : ∃ u, H a = some u ∧ (∀ xs, u ≠ .tup xs) ∧ ∀ o v, u ≠ .frz o v := by
  obtain ⟨r, hr⟩ := List.getElem?_of_mem h
  have hl : r < vh.length := by rw [← R.len]; exact (List.getElem?_eq_some_iff.mp hr).1
  have q := R.obj r vh[r] a (List.getElem?_eq_getElem hl) hr
  cases e : vh[r] with
  | lst ws => rw [e] at q; obtain ⟨xs, h, _⟩ := q; exact ⟨_, h, by simp, by simp⟩
  | dct ws => rw [e] at q; obtain ⟨xs, h, _⟩ := q; exact ⟨_, h, by simp, by simp⟩
  | ins c ws => rw [e] at q; obtain ⟨_, _, _, _, h, _⟩ := q; exact ⟨_, h, by simp, by simp⟩
theorem Rel.noT (R : Rel K cl ρ vh H) {a : Addr} {xs : List V} (h : H a = some (.tup xs)) : a ∉ ρ := fun z => by
  obtain ⟨u, e, n, _⟩ := R.track z
  rw [h] at e; cases e; exact n _ rfl
theorem Rel.noF (R : Rel K cl ρ vh H) {a : Addr} {o : Obj} {u : HO} (h : H a = some (.frz o u)) : a ∉ ρ := fun z => by
  obtain ⟨u, e, _, n⟩ := R.track z
  rw [h] at e; cases e; exact n _ _ rfl
theorem SqT.stay (R : Rel K cl ρ vh H) (f : Fr ρ H ρ' H') {a : Addr} {xs : List V} (h : SqT K H a xs) : SqT K H' a xs := by
  rcases h with (h | ⟨o, h⟩) | h
  · exact .inl (.inl (f.keep a _ h (R.noT h)).1)
  · exact .inl (.inr ⟨o, (f.keep a _ h (R.noF h)).1⟩)
  · exact .inr h
theorem RoL.stay (R : Rel K cl ρ vh H) (f : Fr ρ H ρ' H') {a : Addr} {xs : List V} (h : RoL K H a xs) : RoL K H' a xs := by
  rcases h with ⟨o, h⟩ | h
  · exact .inl ⟨o, (f.keep a _ h (R.noF h)).1⟩
  · exact .inr h
/-- what keeps values -/
structure Kp (K : PySem.W.Frag) (ρ : List Addr) (H : Hp) (ρ' : List Addr) (H' : Hp) : Prop where
  get : ∀ (r : Nat) (a : Addr), ρ[r]? = some a → ρ'[r]? = some a
  sqt : ∀ a xs, SqT K H a xs → SqT K H' a xs
  rol : ∀ a xs, RoL K H a xs → RoL K H' a xs
theorem Fr.kp (R : Rel K cl ρ vh H) (f : Fr ρ H ρ' H') : Kp K ρ H ρ' H' := ⟨fun _ _ h => f.get h, fun _ _ h => SqT.stay R f h, fun _ _ h => RoL.stay R f h⟩
mutual
theorem ValR.keep (f : Kp K ρ H ρ' H') : ∀ {w : W} {v : V}, ValR K ρ H w v → ValR K ρ' H' w v
  | .non, _, h => by unfold ValR at h ⊢; exact h
  | .bl _, _, h => by unfold ValR at h ⊢; exact h
  | .int _, _, h => by unfold ValR at h ⊢; exact h
  | .str _, _, h => by unfold ValR at h ⊢; exact h
  | .tup ws, _, h => by
    unfold ValR at h ⊢
    obtain ⟨a, xs, e, hs, hv⟩ := h
    exact ⟨a, xs, e, f.sqt _ _ hs, ValsR.keep f hv⟩
  | .rol ws, _, h => by
    unfold ValR at h ⊢
    obtain ⟨a, xs, e, hs, hv⟩ := h
    exact ⟨a, xs, e, f.rol _ _ hs, ValsR.keep f hv⟩
  | .ref r, _, h => by
    unfold ValR at h ⊢
    obtain ⟨a, e, hs⟩ := h
    exact ⟨a, e, f.get _ _ hs⟩
theorem ValsR.keep (f : Kp K ρ H ρ' H') : ∀ {ws : List W} {vs : List V}, ValsR K ρ H ws vs → ValsR K ρ' H' ws vs
  | [], _, h => by unfold ValsR at h ⊢; exact h
  | w :: ws, _, h => by
    unfold ValsR at h ⊢
    obtain ⟨x, xs, e, h1, h2⟩ := h
    exact ⟨x, xs, e, ValR.keep f h1, ValsR.keep f h2⟩
end
theorem KvR.keep {κ : Type} (f : Kp K ρ H ρ' H') : ∀ {ws : List (κ × W)} {vs : List (κ × V)}, KvR K ρ H ws vs → KvR K ρ' H' ws vs
  | [], _, h => h
  | (k, w) :: ws, _, h => by
    obtain ⟨x, xs, e, h1, h2⟩ := h
    exact ⟨x, xs, e, ValR.keep f h1, KvR.keep f h2⟩
theorem ObjR.keep (f : Kp K ρ H ρ' H') {a : Addr} {o : O} (e : H' a = H a) (h : ObjR K cl ρ H a o) : ObjR K cl ρ' H' a o := by
  cases o with
  | lst ws => obtain ⟨xs, h1, h2⟩ := h; exact ⟨xs, e.trans h1, ValsR.keep f h2⟩
  | dct ws => obtain ⟨xs, h1, h2⟩ := h; exact ⟨xs, e.trans h1, KvR.keep f h2⟩
  | ins c ws => obtain ⟨C, dx, xs, hc, h1, h2⟩ := h; exact ⟨C, dx, xs, hc, e.trans h1, KvR.keep f h2⟩
theorem ValR.stay (R : Rel K cl ρ vh H) (f : Fr ρ H ρ' H') {w : W} {v : V} (h : ValR K ρ H w v) : ValR K ρ' H' w v := ValR.keep (f.kp R) h
theorem ValsR.stay (R : Rel K cl ρ vh H) (f : Fr ρ H ρ' H') {ws : List W} {vs : List V} (h : ValsR K ρ H ws vs) : ValsR K ρ' H' ws vs := ValsR.keep (f.kp R) h
theorem KvR.stay {κ : Type} (R : Rel K cl ρ vh H) (f : Fr ρ H ρ' H') {ws : List (κ × W)} {vs : List (κ × V)} (h : KvR K ρ H ws vs) : KvR K ρ' H' ws vs := KvR.keep (f.kp R) h
theorem ObjR.stay (R : Rel K cl ρ vh H) (f : Fr ρ H ρ' H') {a : Addr} {o : O} (e : H' a = H a) (h : ObjR K cl ρ H a o) : ObjR K cl ρ' H' a o := ObjR.keep (f.kp R) e h

/-! ### lists of values -/
theorem ValsR.nil : ValsR K ρ H [] [] := by unfold ValsR; rfl
theorem ValsR.cons {w : W} {v : V} {ws : List W} {vs : List V} (h : ValR K ρ H w v) (hs : ValsR K ρ H ws vs) : ValsR K ρ H (w :: ws) (v :: vs) := by
  unfold ValsR; exact ⟨v, vs, rfl, h, hs⟩
theorem ValsR.uncons {w : W} {ws : List W} {vs : List V} (h : ValsR K ρ H (w :: ws) vs) : ∃ x xs, vs = x :: xs ∧ ValR K ρ H w x ∧ ValsR K ρ H ws xs := by
  unfold ValsR at h; exact h
theorem ValsR.nil_inv {vs : List V} (h : ValsR K ρ H [] vs) : vs = [] := by unfold ValsR at h; exact h
theorem ValsR.length : ∀ {ws : List W} {vs : List V}, ValsR K ρ H ws vs → vs.length = ws.length
  | [], _, h => by rw [h.nil_inv]; rfl
  | w :: ws, _, h => by
    obtain ⟨x, xs, rfl, _, h2⟩ := h.uncons
    rw [List.length_cons, List.length_cons, ValsR.length h2]
theorem ValsR.get : ∀ {ws : List W} {vs : List V} {i : Nat} {w : W}, ValsR K ρ H ws vs → ws[i]? = some w → ∃ v, vs[i]? = some v ∧ ValR K ρ H w v
  | [], _, i, _, _, h => by simp at h
  | w :: ws, _, 0, _, h, e => by
    obtain ⟨x, xs, rfl, h1, h2⟩ := h.uncons
    simp at e; subst e
    exact ⟨x, rfl, h1⟩
  | w :: ws, _, i + 1, _, h, e => by
    obtain ⟨x, xs, rfl, h1, h2⟩ := h.uncons
    simp at e
    obtain ⟨v, hv, hr⟩ := ValsR.get h2 e
    exact ⟨v, by simpa using hv, hr⟩
theorem ValsR.append : ∀ {ws us : List W} {vs xs : List V}, ValsR K ρ H ws vs → ValsR K ρ H us xs → ValsR K ρ H (ws ++ us) (vs ++ xs)
  | [], _, _, _, h, h' => by rw [h.nil_inv]; exact h'
  | w :: ws, _, _, _, h, h' => by
    obtain ⟨x, xs, rfl, h1, h2⟩ := h.uncons
    exact .cons h1 (ValsR.append h2 h')
theorem ValsR.take : ∀ {ws : List W} {vs : List V} (n : Nat), ValsR K ρ H ws vs → ValsR K ρ H (ws.take n) (vs.take n)
  | _, _, 0, _ => by simpa using ValsR.nil
  | [], _, n + 1, h => by rw [h.nil_inv]; simpa using ValsR.nil
  | w :: ws, _, n + 1, h => by
    obtain ⟨x, xs, rfl, h1, h2⟩ := h.uncons
    simpa using .cons h1 (ValsR.take n h2)
theorem ValsR.drop : ∀ {ws : List W} {vs : List V} (n : Nat), ValsR K ρ H ws vs → ValsR K ρ H (ws.drop n) (vs.drop n)
  | _, _, 0, h => by simpa using h
  | [], _, n + 1, h => by rw [h.nil_inv]; simpa using ValsR.nil
  | w :: ws, _, n + 1, h => by
    obtain ⟨x, xs, rfl, h1, h2⟩ := h.uncons
    simpa using ValsR.drop n h2
theorem ValsR.set : ∀ {ws : List W} {vs : List V} {w : W} {v : V} (n : Nat), ValsR K ρ H ws vs → ValR K ρ H w v → ValsR K ρ H (ws.set n w) (vs.set n v)
  | [], _, _, _, n, h, _ => by rw [h.nil_inv]; simpa using ValsR.nil
  | u :: ws, _, _, _, 0, h, hw => by
    obtain ⟨x, xs, rfl, h1, h2⟩ := h.uncons
    simpa using .cons hw h2
  | u :: ws, _, _, _, n + 1, h, hw => by
    obtain ⟨x, xs, rfl, h1, h2⟩ := h.uncons
    simpa using .cons h1 (ValsR.set n h2 hw)
theorem ValsR.reverse : ∀ {ws : List W} {vs : List V}, ValsR K ρ H ws vs → ValsR K ρ H ws.reverse vs.reverse
  | [], _, h => by rw [h.nil_inv]; simpa using ValsR.nil
  | w :: ws, _, h => by
    obtain ⟨x, xs, rfl, h1, h2⟩ := h.uncons
    rw [List.reverse_cons, List.reverse_cons]
    exact (ValsR.reverse h2).append (.cons h1 .nil)
theorem ValsR.rep {ws : List W} {vs : List V} (h : ValsR K ρ H ws vs) : ∀ n : Nat, ValsR K ρ H (List.replicate n ws).flatten (List.replicate n vs).flatten
  | 0 => by simpa using ValsR.nil
  | n + 1 => by
    rw [List.replicate_succ, List.replicate_succ, List.flatten_cons, List.flatten_cons]
    exact h.append (ValsR.rep h n)
theorem ValsR.ints : ∀ {ws : List W} {vs : List V} {ns : List Int}, ValsR K ρ H ws vs → intsOf ws = some ns → vs = ns.map V.int
  | [], _, _, h, e => by rw [h.nil_inv]; simp [intsOf] at e; subst e; rfl
  | .int i :: ws, _, _, h, e => by
    obtain ⟨x, xs, rfl, h1, h2⟩ := h.uncons
    simp only [intsOf, Option.map_eq_some_iff] at e
    obtain ⟨ms, e1, rfl⟩ := e
    rw [ValsR.ints h2 e1, List.map_cons]
    unfold ValR at h1; rw [h1]
  | .non :: _, _, _, _, e => by simp [intsOf] at e
  | .bl _ :: _, _, _, _, e => by simp [intsOf] at e
  | .str _ :: _, _, _, _, e => by simp [intsOf] at e
  | .tup _ :: _, _, _, _, e => by simp [intsOf] at e
  | .rol _ :: _, _, _, _, e => by simp [intsOf] at e
  | .ref _ :: _, _, _, _, e => by simp [intsOf] at e
theorem ValsR.strs : ∀ {ws : List W} {vs : List V} {ns : List Str}, ValsR K ρ H ws vs → strsOf ws = some ns → vs = ns.map V.str
  | [], _, _, h, e => by rw [h.nil_inv]; simp [strsOf] at e; subst e; rfl
  | .str i :: ws, _, _, h, e => by
    obtain ⟨x, xs, rfl, h1, h2⟩ := h.uncons
    simp only [strsOf, Option.map_eq_some_iff] at e
    obtain ⟨ms, e1, rfl⟩ := e
    rw [ValsR.strs h2 e1, List.map_cons]
    unfold ValR at h1; rw [h1]
  | .non :: _, _, _, _, e => by simp [strsOf] at e
  | .bl _ :: _, _, _, _, e => by simp [strsOf] at e
  | .int _ :: _, _, _, _, e => by simp [strsOf] at e
  | .tup _ :: _, _, _, _, e => by simp [strsOf] at e
  | .rol _ :: _, _, _, _, e => by simp [strsOf] at e
  | .ref _ :: _, _, _, _, e => by simp [strsOf] at e
theorem ValsR.bls : ∀ {ws : List W} {vs : List V} {ns : List Bool}, ValsR K ρ H ws vs → blsOf ws = some ns → vs = ns.map V.bl
  | [], _, _, h, e => by rw [h.nil_inv]; simp [blsOf] at e; subst e; rfl
  | .bl i :: ws, _, _, h, e => by
    obtain ⟨x, xs, rfl, h1, h2⟩ := h.uncons
    simp only [blsOf, Option.map_eq_some_iff] at e
    obtain ⟨ms, e1, rfl⟩ := e
    rw [ValsR.bls h2 e1, List.map_cons]
    unfold ValR at h1; rw [h1]
  | .non :: _, _, _, _, e => by simp [blsOf] at e
  | .str _ :: _, _, _, _, e => by simp [blsOf] at e
  | .int _ :: _, _, _, _, e => by simp [blsOf] at e
  | .tup _ :: _, _, _, _, e => by simp [blsOf] at e
  | .rol _ :: _, _, _, _, e => by simp [blsOf] at e
  | .ref _ :: _, _, _, _, e => by simp [blsOf] at e

/-! ### the heap grows, an object is written -/
theorem Fr.new {p : Addr} {u : HO} (h : H p = none) : Fr ρ H ρ (upd H p u) := by
  refine ⟨⟨[], by simp⟩, fun a o ho n => ⟨?_, n⟩⟩
  rw [upd_ne (by rintro rfl; rw [h] at ho; cases ho)]; exact ho
theorem Fr.alloc {p : Addr} {u : HO} (h : H p = none) : Fr ρ H (ρ ++ [p]) (upd H p u) := by
  refine ⟨⟨[p], rfl⟩, fun a o ho n => ?_⟩
  have hne : a ≠ p := by rintro rfl; rw [h] at ho; cases ho
  exact ⟨by rw [upd_ne hne]; exact ho, by simp [n, hne]⟩
theorem Fr.write {r : Nat} {a : Addr} {u : HO} (h : ρ[r]? = some a) : Fr ρ H ρ (upd H a u) := by
  refine ⟨⟨[], by simp⟩, fun b o ho n => ⟨?_, n⟩⟩
  rw [upd_ne (by rintro rfl; exact n (List.mem_of_getElem? h))]; exact ho
/-- a new tuple: nothing of ours -/
theorem Rel.new (R : Rel K cl ρ vh H) {p : Addr} {u : HO} (h : H p = none) : Rel K cl ρ vh (upd H p u) := by
  refine ⟨R.len, fun r o a h1 h2 => ?_, R.inj⟩
  refine (R.obj r o a h1 h2).stay R (Fr.new h) (upd_ne ?_)
  rintro rfl
  obtain ⟨u, e, _⟩ := R.track (List.mem_of_getElem? h2)
  rw [h] at e; cases e
theorem Rel.alloc (R : Rel K cl ρ vh H) {p : Addr} {u : HO} {o : O} (h : H p = none) (ho : ObjR K cl (ρ ++ [p]) (upd H p u) p o) : Rel K cl (ρ ++ [p]) (vh ++ [o]) (upd H p u) := by
  have np : p ∉ ρ := fun z => by
    obtain ⟨u, e, _⟩ := R.track z
    rw [h] at e; cases e
  have hlast : ∀ r a, (ρ ++ [p])[r]? = some a → (r < ρ.length ∧ ρ[r]? = some a) ∨ (r = ρ.length ∧ a = p) := fun r a e => by
    by_cases hr : r < ρ.length
    · exact .inl ⟨hr, by rw [List.getElem?_append_left hr] at e; exact e⟩
    · rw [List.getElem?_append_right (by omega)] at e
      by_cases h0 : r - ρ.length = 0
      · rw [h0] at e; simp at e
        exact .inr ⟨by omega, e.symm⟩
      · rw [List.getElem?_eq_none (by simp; omega)] at e; cases e
  refine ⟨by simp [R.len], fun r o' a h1 h2 => ?_, fun r r' a h1 h2 => ?_⟩
  · rcases hlast r a h2 with ⟨hr, e⟩ | ⟨hr, rfl⟩
    · rw [List.getElem?_append_left (by rw [← R.len]; exact hr)] at h1
      exact (R.obj r o' a h1 e).stay R (Fr.alloc h) (upd_ne (by rintro rfl; exact np (List.mem_of_getElem? e)))
    · rw [hr, R.len, List.getElem?_append_right (Nat.le_refl _)] at h1
      simp at h1; subst h1; exact ho
  · rcases hlast r a h1 with ⟨hr, e⟩ | ⟨hr, rfl⟩
    · rcases hlast r' a h2 with ⟨hr', e'⟩ | ⟨hr', rfl⟩
      · exact R.inj r r' a e e'
      · exact absurd (List.mem_of_getElem? e) np
    · rcases hlast r' a h2 with ⟨hr', e'⟩ | ⟨hr', _⟩
      · exact absurd (List.mem_of_getElem? e') np
      · omega
theorem Rel.write (R : Rel K cl ρ vh H) {r : Nat} {a : Addr} {u : HO} {o : O} (h : ρ[r]? = some a) (ho : ObjR K cl ρ (upd H a u) a o) : Rel K cl ρ (vh.set r o) (upd H a u) := by
  refine ⟨by simp [R.len], fun r' o' b h1 h2 => ?_, R.inj⟩
  by_cases hb : r' = r
  · subst hb
    rw [h] at h2; cases h2
    have hl : r' < vh.length := by rw [← R.len]; exact (List.getElem?_eq_some_iff.mp h).1
    rw [List.getElem?_set_self hl] at h1; cases h1
    exact ho
  · rw [List.getElem?_set_ne (Ne.symm hb)] at h1
    exact (R.obj r' o' b h1 h2).stay R (Fr.write h) (upd_ne (by rintro rfl; exact hb (R.inj _ _ _ h2 h)))
theorem Fr.adopt {ρ0 : List Addr} {H0 : Hp} (f : Fr ρ0 H0 ρ H) {D : Addr} (h : H0 D = none) : Fr ρ0 H0 (ρ ++ [D]) H := by
  obtain ⟨m, e⟩ := f.pre
  refine ⟨⟨m ++ [D], by rw [e, List.append_assoc]⟩, fun a o ho n => ?_⟩
  obtain ⟨h1, n1⟩ := f.keep a o ho n
  exact ⟨h1, by simp only [List.mem_append, List.mem_singleton, not_or]; exact ⟨n1, by rintro rfl; rw [h] at ho; cases ho⟩⟩
/-- it is written, while nobody minds -/
theorem Fr.side {ρ0 : List Addr} {H0 : Hp} (f : Fr ρ0 H0 ρ H) {D : Addr} {u : HO} (h : H0 D = none) : Fr ρ0 H0 ρ (upd H D u) :=
  ⟨f.pre, fun a o ho n => let ⟨h1, n1⟩ := f.keep a o ho n; ⟨by rw [upd_ne (by rintro rfl; rw [h] at ho; cases ho)]; exact h1, n1⟩⟩
theorem Kp.sideG {D : Addr} {u : HO} (h1 : ∀ xs, H D ≠ some (.tup xs)) (h2 : ∀ o v, H D ≠ some (.frz o v)) : Kp K ρ H ρ (upd H D u) := by
  have n1 : ∀ a xs, H a = some (.tup xs) → a ≠ D := fun a xs e z => by subst z; exact h1 _ e
  have n2 : ∀ a o v, H a = some (.frz o v) → a ≠ D := fun a o v e z => by subst z; exact h2 _ _ e
  refine ⟨fun _ _ h => h, fun a ys q => ?_, fun a ys q => ?_⟩
  · rcases q with (q | ⟨o, q⟩) | q
    · exact .inl (.inl (by rw [upd_ne (n1 a _ q)]; exact q))
    · exact .inl (.inr ⟨o, by rw [upd_ne (n2 a _ _ q)]; exact q⟩)
    · exact .inr q
  · rcases q with ⟨o, q⟩ | q
    · exact .inl ⟨o, by rw [upd_ne (n2 a _ _ q)]; exact q⟩
    · exact .inr q
theorem Rel.sideG (R : Rel K cl ρ vh H) {D : Addr} {u : HO} (h1 : ∀ xs, H D ≠ some (.tup xs)) (h2 : ∀ o v, H D ≠ some (.frz o v)) (n : D ∉ ρ) : Rel K cl ρ vh (upd H D u) :=
  ⟨R.len, fun r o a q1 q2 => (R.obj r o a q1 q2).keep (Kp.sideG h1 h2) (upd_ne (by rintro rfl; exact n (List.mem_of_getElem? q2))), R.inj⟩
theorem Kp.more {D : Addr} : Kp K ρ H (ρ ++ [D]) H := ⟨fun r a e => by rw [List.getElem?_append_left (List.getElem?_eq_some_iff.mp e).1]; exact e, fun _ _ h => h, fun _ _ h => h⟩
theorem Rel.adoptG (R : Rel K cl ρ vh H) {D : Addr} {o : O} (n : D ∉ ρ) (ho : ObjR K cl (ρ ++ [D]) H D o) : Rel K cl (ρ ++ [D]) (vh ++ [o]) H := by
  have hlast : ∀ (r : Nat) (a : Addr), (ρ ++ [D])[r]? = some a → (r < ρ.length ∧ ρ[r]? = some a) ∨ (r = ρ.length ∧ a = D) := fun r a e => by
    by_cases hr : r < ρ.length
    · exact .inl ⟨hr, by rw [List.getElem?_append_left hr] at e; exact e⟩
    · rw [List.getElem?_append_right (by omega)] at e
      by_cases h0 : r - ρ.length = 0
      · rw [h0] at e; simp at e
        exact .inr ⟨by omega, e.symm⟩
      · rw [List.getElem?_eq_none (by simp; omega)] at e; cases e
  refine ⟨by simp [R.len], fun r o' a h1 h2 => ?_, fun r r' a h1 h2 => ?_⟩
  · rcases hlast r a h2 with ⟨hr, e⟩ | ⟨hr, rfl⟩
    · rw [List.getElem?_append_left (by rw [← R.len]; exact hr)] at h1
      exact (R.obj r o' a h1 e).keep Kp.more rfl
    · rw [hr, R.len, List.getElem?_append_right (Nat.le_refl _)] at h1
      simp at h1; subst h1
      exact ho
  · rcases hlast r a h1 with ⟨hr, e⟩ | ⟨hr, rfl⟩
    · rcases hlast r' a h2 with ⟨hr', e'⟩ | ⟨hr', rfl⟩
      · exact R.inj r r' a e e'
      · exact absurd (List.mem_of_getElem? e) n
    · rcases hlast r' a h2 with ⟨hr', e'⟩ | ⟨hr', _⟩
      · exact absurd (List.mem_of_getElem? e') n
      · omega
theorem Rel.free (R : Rel K cl ρ vh H) {p : Addr} (h : H p = none) : p ∉ ρ := fun z => by
  obtain ⟨u, e, _⟩ := R.track z
  rw [h] at e; cases e
theorem Rel.at (R : Rel K cl ρ vh H) {r : Nat} {a : Addr} {o : O} (hr : ρ[r]? = some a) (h : vh[r]? = some o) : ObjR K cl ρ H a o := R.obj r o a h hr
theorem Rel.fresh (R : Rel K cl ρ vh H) {p : Addr} : (ρ ++ [p])[vh.length]? = some p := by rw [← R.len]; simp
end

/-! ### names -/
def EnvR (K : PySem.W.Frag) (N : List Str) (ρ : List Addr) (H : Hp) (env : Env) (σ : L2.St) : Prop :=
  σ.length = N.length ∧ ∀ i w, env i = some w → ∃ v, σ[i]? = some (some v) ∧ ValR K ρ H w v
section
variable {K : PySem.W.Frag} {cl : Nat → Option Addr} {N : List Str} {ρ ρ' : List Addr} {vh : VH} {H H' : Hp} {env : Env} {σ : L2.St}
theorem EnvR.stay (R : Rel K cl ρ vh H) (f : Fr ρ H ρ' H') (h : EnvR K N ρ H env σ) : EnvR K N ρ' H' env σ :=
  ⟨h.1, fun i w e => let ⟨v, h1, h2⟩ := h.2 i w e; ⟨v, h1, ValR.stay R f h2⟩⟩
theorem EnvR.set (h : EnvR K N ρ H env σ) {i : Nat} {w : W} {v : V} (hi : i < N.length) (hv : ValR K ρ H w v) : EnvR K N ρ H (setv env i w) (σ.set i (some v)) := by
  refine ⟨by rw [List.length_set]; exact h.1, fun j u e => ?_⟩
  unfold setv at e
  by_cases hj : j = i
  · subst hj
    rw [if_pos rfl] at e; cases e
    exact ⟨v, by rw [List.getElem?_set_self (by rw [h.1]; exact hi)], hv⟩
  · rw [if_neg hj] at e
    obtain ⟨x, h1, h2⟩ := h.2 j u e
    exact ⟨x, by rw [List.getElem?_set_ne (Ne.symm hj)]; exact h1, h2⟩
theorem wipe_out' {σ : L2.St} {i : Nat} : ∀ {vs : List Nat}, i ∉ vs → (wipe σ vs)[i]? = σ[i]?
  | [], _ => rfl
  | v :: vs, h => by
    unfold wipe
    rw [List.getElem?_set_ne (by rintro rfl; exact h (by simp))]
    exact wipe_out' (fun z => h (by simp [z]))
theorem EnvR.wipe (h : EnvR K N ρ H env σ) (own : List Nat) : EnvR K N ρ H (wipeE env own) (L2.wipe σ own) := by
  refine ⟨by rw [wipe_length]; exact h.1, fun j u e => ?_⟩
  unfold wipeE at e
  by_cases hj : j ∈ own
  · rw [if_pos hj] at e; cases e
  · rw [if_neg hj] at e
    obtain ⟨x, h1, h2⟩ := h.2 j u e
    exact ⟨x, by rw [wipe_out' hj]; exact h1, h2⟩
end
end Nw

set_option Elab.async false
set_option linter.all false
set_option maxRecDepth 100000
/-! Nw, part C: when the evaluator's tree is the program's. -/
namespace Nw
open PySem PySem.Spec PyProof.Rows L2

structure GN where
  fn : List Str

def okNm (x : Str) : Bool := !(x == ("__debug__" : Str)) && !(x == ("__classdict__" : Str)) && !(x == ("__name__" : Str))
def visB (sc : Scope) (x : Str) : Bool := match sc.names.lookup x with | some .local => true | some .cell => true | some .free => true | _ => false
def locB (sc : Scope) (x : Str) : Bool := match sc.names.lookup x with | some .local => true | some .cell => true | _ => false
def glbB (sc : Scope) (x : Str) : Bool := match sc.names.lookup x with | some .globalImplicit => true | _ => false
def bopB : Bop → Operator → Bool
  | .add, .Add | .sub, .Sub | .mul, .Mult | .fdiv, .FloorDiv | .mod, .Mod | .pow, .Pow | .shl, .LShift | .shr, .RShift | .band, .BitAnd | .bor, .BitOr | .bxor, .BitXor => true
  | _, _ => false
def copB : Cop → CmpOp → Bool
  | .eq, .Eq | .ne, .NotEq | .lt, .Lt | .le, .LtE | .gt, .Gt | .ge, .GtE | .is, .Is | .isn, .IsNot | .isin, .In | .notin, .NotIn => true
  | _, _ => false
def biNm : Bi → Str
  | .len => "len" | .abs => "abs" | .int => "int" | .str => "str" | .list => "list" | .tuple => "tuple" | .max => "max" | .min => "min" | .sum => "sum" | .sorted => "sorted" | .repr => "repr" | .all => "all"
def tyNm : Ty → Str
  | .tuple => "tuple" | .list => "list" | .str => "str" | .int => "int" | .bool => "bool" | .dict => "dict"
def notStar : Expr → Bool | .Starred _ _ => false | _ => true
def notSet : Expr → Bool | .Set _ _ _ => false | _ => true
def notSlice : Expr → Bool | .Slice _ _ _ _ => false | _ => true
/-- a test that is its value's truth -/
def plainT : Expr → Bool | .UnaryOp .Not _ _ => false | .BoolOp _ _ _ => false | .IfExp _ _ _ _ => false | .Compare _ _ _ _ => false | _ => true
def notComp : Expr → Bool | .ListComp _ _ _ _ => false | .SetComp _ _ _ _ => false | .DictComp _ _ _ _ _ => false | _ => true
def notSup : Expr → Bool | .Call (.Name _ _) [] [] _ => false | _ => true
def cstB : W → Expr → Bool
  | .non, .Constant .none _ _ => true
  | .bl b, .Constant (.bool c) _ _ => b == c
  | .int i, .Constant (.int j) _ _ => decide (i = j)
  | .str s, .Constant (.str t) _ _ => decide (s = t)
  | _, _ => false
def keyB : Key → Option Expr → Bool
  | .inl i, some (.Constant (.int j) _ _) => decide (i = j)
  | .inr s, some (.Constant (.str t) _ _) => decide (s = t)
  | _, _ => false
def keysB : List Key → List (Option Expr) → Bool
  | [], [] => true
  | k :: ks, e :: es => keyB k e && keysB ks es
  | _, _ => false
/-- what is walked: the arguments -/
def itArgs (sc : Scope) : IK → Expr → Option (List Expr)
  | .plain, e => if notSet e then some [e] else none
  | .range, .Call (.Name x _) es [] _ => if decide (x = ("range" : Str)) && glbB sc x then some es else none
  | _, _ => none
mutual
/-- its names are among these slots -/
def tnIn (own : List Nat) : TN → Bool
  | .nm i => decide (i ∈ own)
  | .tp ts => tnIns own ts
def tnIns (own : List Nat) : List TN → Bool
  | [] => true
  | t :: ts => tnIn own t && tnIns own ts
end
section
variable (N : List Str)
mutual
def chkTN (loc : Str → Bool) : TN → Expr → Bool
  | .nm i, .Name x _ => decide (N[i]? = some x) && loc x
  | .tp ts, .Tuple es _ _ => chkTNs loc ts es
  | _, _ => false
def chkTNs (loc : Str → Bool) : List TN → List Expr → Bool
  | [], [] => true
  | t :: ts, e :: es => notStar e && chkTN loc t e && chkTNs loc ts es
  | _, _ => false
end
section
variable (G : GN)
mutual
def chkE (sc : Scope) : E → Expr → Bool
  | .var i, .Name x _ => decide (N[i]? = some x) && visB sc x && okNm x
  | .cst w, e => cstB w e
  | .gl x, .Name y _ => decide (x = y) && glbB sc y && okNm y
  | .bin o a b, .BinOp a' o' b' _ => bopB o o' && chkE sc a a' && chkE sc b b'
  | .neg a, .UnaryOp .USub a' _ => chkE sc a a'
  | .nt a, .UnaryOp .Not a' _ => chkE sc a a'
  | .cmp o a b, .Compare a' [o'] [b'] _ => copB o o' && notSet b' && chkE sc a a' && chkE sc b b'
  | .chn o p a b c, .Compare a' [o', p'] [b', c'] _ => copB o o' && copB p p' && notSet b' && notSet c' && chkE sc a a' && chkE sc b b' && chkE sc c c'
  | .and es, .BoolOp .And es' _ => chkEs sc es es' && !es.isEmpty
  | .or es, .BoolOp .Or es' _ => chkEs sc es es' && !es.isEmpty
  | .ite c a b, .IfExp c' a' b' _ => chkE sc c c' && chkE sc a a' && chkE sc b b'
  | .tup es, .Tuple es' _ _ => chkEs sc es es'
  | .lst es, .List es' _ => chkEs sc es es'
  | .dct ks es, .Dict ks' es' _ => keysB ks ks' && chkEs sc es es' && decide (es.length = ks.length) && decide (ks.length ≤ 15)
  | .ix a b, .Subscript a' b' _ => notSlice b' && chkE sc a a' && chkE sc b b'
  | .sl a lo hi, .Subscript a' (.Slice lo' hi' none _) _ => chkE sc a a' && chkO sc lo lo' && chkO sc hi hi'
  | .call f es, .Call (.Name x _) es' [] _ => decide (G.fn[f]? = some x) && glbB sc x && okNm x && chkEs sc es es'
  | .bi f es, .Call (.Name x _) es' [] _ => decide (biNm f = x) && glbB sc x && chkEs sc es es' && !es.isEmpty
  | .isi a t, .Call (.Name x _) [a', .Name y _] [] _ => decide (x = ("isinstance" : Str)) && glbB sc x && decide (y = tyNm t) && glbB sc y && notStar a' && chkE sc a a'
  | .mth o m es, .Call (.Attribute o' m' ap) es' [] cp => decide (m = m') && notSup o' && chkE sc o o' && chkEs sc es es' && decide (ap.endLine = cp.line) && decide (es.length < 20)
  | .lc elt own tg k it cs, .ListComp elt' [⟨tg', it', ifs', a⟩] scope _ => decide (a = 0) && tnIn own tg && notSet it' && blkC N sc scope (own.map fun i => ((N[i]?).getD Str.empty, i)) &&
      chkTN N (locB scope) tg tg' && (match itArgs sc k it' with | some es => chkEs sc it es | none => false) && chkEs (relS scope sc) cs ifs' && decide (cs.length ≤ 1) && chkE (relS scope sc) elt elt'
  | _, _ => false
def chkEs (sc : Scope) : List E → List Expr → Bool
  | [], [] => true
  | a :: as, e :: es => notStar e && chkE sc a e && chkEs sc as es
  | _, _ => false
def chkO (sc : Scope) : Option E → Option Expr → Bool
  | none, none => true
  | some a, some e => chkE sc a e
  | _, _ => false
end
mutual
def chkT (sc : Scope) : Tg → Expr → Bool
  | .nm i, .Name x _ => decide (N[i]? = some x) && locB sc x
  | .tp ts, .Tuple es _ _ => chkTs sc ts es
  | .sub o i, .Subscript o' i' _ => notSlice i' && chkE N G sc o o' && chkE N G sc i i'
  | _, _ => false
def chkTs (sc : Scope) : List Tg → List Expr → Bool
  | [], [] => true
  | t :: ts, e :: es => notStar e && chkT sc t e && chkTs sc ts es
  | _, _ => false
end
/-- stores over names alone, from the right: the names; some none: no; none: not known -/
def swp (sc : Scope) (ts vs : List Expr) : Option (Option (List Str)) :=
  if (!(ts.length == 2 || ts.length == 3) || vs.length != ts.length) = true then some none
  else if (vs.any fun | .Starred .. => true | _ => false) = true then some none
  else
    let line := (ts.head?.map (·.pos.line)).getD 0
    let names := ts.filterMap fun
      | .Name id pos => if sc.names.lookup id == some .local && pos.line == line then some id else none
      | _ => none
    if (names.length != ts.length || names.eraseDups.length != names.length) = true then some none
    else if vs.all (foldedForSure 8) = true then some none
    else if vs.all (constantsAlone 8) = true then none
    else some (some names)
def par2B (sc : Scope) (x y : Str) : List Expr → List Expr → Bool
  | [.Name a _, .Name b _], [_, _] => decide (a = x) && decide (b = y) && decide (sc.names.lookup x = some .local) && decide (sc.names.lookup y = some .local) && decide (x ≠ y)
  | _, _ => false
def par3B (sc : Scope) (x y z : Str) : List Expr → List Expr → Bool
  | [.Name a _, .Name b _, .Name c _], [_, _, _] => decide (a = x) && decide (b = y) && decide (c = z) && decide (sc.names.lookup x = some .local) && decide (sc.names.lookup y = some .local) && decide (sc.names.lookup z = some .local) &&
      decide (x ≠ y) && decide (x ≠ z) && decide (y ≠ z)
  | _, _ => false
def tupB (sc : Scope) (ts vs : List Expr) : Bool := match swp sc ts vs with
  | some none => true
  | some (some [x, y]) => par2B sc x y ts vs
  | some (some [x, y, z]) => par3B sc x y z ts vs
  | _ => false
def setB (sc : Scope) (t e : Expr) : Bool := match t, e with
  | .Tuple ts _ _, .Tuple vs _ _ => tupB sc ts vs
  | _, .SetComp _ _ _ _ => false
  | _, .DictComp _ _ _ _ _ => false
  | _, _ => true
mutual
def chkS (sc : Scope) : Sm → Stmt → Bool
  | .ex e, .Expr e' _ => notComp e' && chkE N G sc e e'
  | .set t e, .Assign [t'] e' _ => notStar t' && setB sc t' e' && chkE N G sc e e' && chkT N G sc t t'
  | .augN i o e, .AugAssign (.Name x _) o' e' _ => decide (N[i]? = some x) && locB sc x && bopB o o' && chkE N G sc e e'
  | .augS o i p e, .AugAssign (.Subscript o' i' _) p' e' _ => notSlice i' && bopB p p' && chkE N G sc o o' && chkE N G sc i i' && chkE N G sc e e'
  | .ret none, .Return none _ => true
  | .ret (some e), .Return (some e') _ => chkE N G sc e e'
  | .ife c a b, .If c' a' b' _ => chkE N G sc c c' && chkSs sc a a' && chkSs sc b b'
  | .whl c b, .While c' b' [] _ => chkE N G sc c c' && chkSs sc b b'
  | .for t k it b, .For t' it' b' [] _ => notSet it' && chkTN N (locB sc) t t' && (match itArgs sc k it' with | some es => chkEs N G sc it es | none => false) && chkSs sc b b'
  | .pass, .Pass _ => true
  | .brk, .Break _ => true
  | .cont, .Continue _ => true
  | _, _ => false
def chkSs (sc : Scope) : List Sm → List Stmt → Bool
  | [], [] => true
  | a :: as, s :: ss => chkS sc a s && chkSs sc as ss
  | _, _ => false
end
end
end
end Nw

set_option Elab.async false
set_option linter.all false
set_option maxRecDepth 100000
set_option maxHeartbeats 1000000
/-! Nw, part D: the operators, by values. -/
namespace Nw
open PySem PySem.Spec PyProof.Rows L2

theorem line_eq : line = sizeLine := sizeLine_eq.symm

section
variable {K : PySem.W.Frag} {ρ : List Addr} {H : Hp} {v : V}
theorem vr_non : ValR K ρ H .non v ↔ v = .non := by unfold ValR; exact Iff.rfl
theorem vr_bl {b : Bool} : ValR K ρ H (.bl b) v ↔ v = .bl b := by unfold ValR; exact Iff.rfl
theorem vr_int {i : Int} : ValR K ρ H (.int i) v ↔ v = .int i := by unfold ValR; exact Iff.rfl
theorem vr_str {s : Str} : ValR K ρ H (.str s) v ↔ v = .str s := by unfold ValR; exact Iff.rfl
theorem vr_tup {ws : List W} : ValR K ρ H (.tup ws) v ↔ ∃ a xs, v = .ref a ∧ SqT K H a xs ∧ ValsR K ρ H ws xs := by unfold ValR; exact Iff.rfl
theorem vr_rol {ws : List W} : ValR K ρ H (.rol ws) v ↔ ∃ a xs, v = .ref a ∧ RoL K H a xs ∧ ValsR K ρ H ws xs := by unfold ValR; exact Iff.rfl
theorem vr_ref {r : Nat} : ValR K ρ H (.ref r) v ↔ ∃ a, v = .ref a ∧ ρ[r]? = some a := by unfold ValR; exact Iff.rfl
end

/-! ### what is wanted, by values, of any operation -/
def WO (X : Cx) (f : Value → Value → Sem Value) : R2 := fun x y H Q => ∀ (pins : List (Addr × Obj)) (s : Shared) (σ : L2.St) (v u : Value), Inv X pins σ H s → RelV x v → RelV y u → wpAny (model X.prog X.w) X.A (f v u) (EP X pins σ Q) X.xe s
theorem oWO {X : Cx} {f : Value → Value → Sem Value} : OpR X f (WO X f) := fun pins s σ H x y v u Q I rx ry h => h pins s σ v u I rx ry
theorem WO.of {X : Cx} {f : Value → Value → Sem Value} {r : R2} (h : OpR X f r) {x y : V} {H : Hp} {Q : VK} (q : r x y H Q) : WO X f x y H Q := fun pins s σ v u I rx ry => h pins s σ H x y v u Q I rx ry q
def WC (X : Cx) (f : Value) : List V → Hp → VK → Prop := fun xs H Q => ∀ (pins : List (Addr × Obj)) (s : Shared) (σ : L2.St) (us : List Value), Inv X pins σ H s → Vals xs us → wpAny (model X.prog X.w) X.A (call f us) (EP X pins σ Q) X.xe s
theorem cWC {X : Cx} {f : Value} : CallR X f (WC X f) := fun pins s σ H xs us Q I rx h => h pins s σ us I rx
theorem WC.of {X : Cx} {f : Value} {r : List V → Hp → VK → Prop} (h : CallR X f r) {xs : List V} {H : Hp} {Q : VK} (q : r xs H Q) : WC X f xs H Q := fun pins s σ us I rx => h pins s σ H xs us Q I rx q

section
variable {X : Cx} {cl : Nat → Option Addr} {ρ : List Addr} {vh vh' : VH} {H : Hp} {Q : VK} {w a b : W} {v u : V}
/-- behind it: for all that may be -/
abbrev Post (K : PySem.W.Frag) (cl : Nat → Option Addr) (ρ : List Addr) (H : Hp) (vh' : VH) (w : W) (Q : VK) : Prop :=
  ∀ ρ' H' v, Fr ρ H ρ' H' → Rel K cl ρ' vh' H' → ValR K ρ' H' w v → Q v H'
theorem Post.at {K : PySem.W.Frag} (R : Rel K cl ρ vh H) (P : Post K cl ρ H vh w Q) (h : ValR K ρ H w v) : Q v H := P ρ H v Fr.rfl' R h
theorem Post.alloc {K : PySem.W.Frag} {o : O} {x : HO} (R : Rel K cl ρ vh H) (P : Post K cl ρ H (vh ++ [o]) (.ref vh.length) Q) (ho : ∀ p, H p = none → ObjR K cl (ρ ++ [p]) (upd H p x) p o) : ∀ p, H p = none → Q (.ref p) (upd H p x) :=
  fun p hp => P _ _ _ (Fr.alloc hp) (R.alloc hp (ho p hp)) (vr_ref.mpr ⟨p, rfl, R.fresh⟩)
theorem Post.lst {K : PySem.W.Frag} {ws : List W} {xs : List V} (R : Rel K cl ρ vh H) (P : Post K cl ρ H (vh ++ [.lst ws]) (.ref vh.length) Q) (h : ValsR K ρ H ws xs) : ∀ p, H p = none → Q (.ref p) (upd H p (.lst xs)) :=
  Post.alloc R P fun p hp => ⟨xs, upd_same, ValsR.stay R (Fr.alloc hp) h⟩
theorem Post.tup {K : PySem.W.Frag} {ws : List W} {xs : List V} (R : Rel K cl ρ vh H) (P : Post K cl ρ H vh (.tup ws) Q) (h : ValsR K ρ H ws xs) : ∀ p, H p = none → Q (.ref p) (upd H p (.tup xs)) :=
  fun p hp => P _ _ _ (Fr.new hp) (R.new hp) (vr_tup.mpr ⟨p, xs, rfl, SqT.of upd_same, ValsR.stay R (Fr.new hp) h⟩)
theorem Rel.lst {K : PySem.W.Frag} {r : Nat} {ws : List W} (R : Rel K cl ρ vh H) (h : vh[r]? = some (.lst ws)) (hv : ValR K ρ H (.ref r) v) : ∃ p xs, v = .ref p ∧ ρ[r]? = some p ∧ H p = some (.lst xs) ∧ ValsR K ρ H ws xs := by
  obtain ⟨p, rfl, hr⟩ := vr_ref.mp hv
  obtain ⟨xs, h1, h2⟩ := R.at hr h
  exact ⟨p, xs, rfl, hr, h1, h2⟩
theorem Rel.dct {K : PySem.W.Frag} {r : Nat} {ws : List (Key × W)} (R : Rel K cl ρ vh H) (h : vh[r]? = some (.dct ws)) (hv : ValR K ρ H (.ref r) v) : ∃ p xs, v = .ref p ∧ ρ[r]? = some p ∧ H p = some (.dK xs) ∧ KvR K ρ H ws xs := by
  obtain ⟨p, rfl, hr⟩ := vr_ref.mp hv
  obtain ⟨xs, h1, h2⟩ := R.at hr h
  exact ⟨p, xs, rfl, hr, h1, h2⟩
theorem listAt_some {vh : VH} {r : Nat} {ws : List W} (h : listAt vh r = some ws) : vh[r]? = some (.lst ws) := by
  unfold listAt at h
  split at h
  · rename_i e; cases h; exact e
  · cases h
/-- a list or tuple by its items -/
theorem seq_of {K : PySem.W.Frag} {ws : List W} (R : Rel K cl ρ vh H) (h : seqOf vh w = some ws) (hv : ValR K ρ H w v) : ∃ p xs, v = .ref p ∧ (SqL K H p xs ∨ SqT K H p xs) ∧ ValsR K ρ H ws xs := by
  cases w with
  | tup zs =>
    cases h
    obtain ⟨p, xs, rfl, h1, h2⟩ := vr_tup.mp hv
    exact ⟨p, xs, rfl, .inr h1, h2⟩
  | rol zs =>
    cases h
    obtain ⟨p, xs, rfl, h1, h2⟩ := vr_rol.mp hv
    exact ⟨p, xs, rfl, .inl h1.sql, h2⟩
  | ref r =>
    obtain ⟨p, xs, rfl, _, h1, h2⟩ := R.lst (listAt_some h) hv
    exact ⟨p, xs, rfl, .inl (SqL.of h1), h2⟩
  | _ => cases h

/-! ### truth -/
theorem tru_of {K : PySem.W.Frag} {k : Bool} (R : Rel K cl ρ vh H) (h : truW vh w = some k) (hv : ValR K ρ H w v) : TruV K v H k := by
  cases w with
  | non => rw [vr_non.mp hv]; cases h; exact rfl
  | bl b => rw [vr_bl.mp hv]; cases h; exact rfl
  | int i => rw [vr_int.mp hv]; cases h; exact rfl
  | str s =>
    rw [vr_str.mp hv]
    simp only [truW] at h
    split at h
    · rename_i hl
      cases h
      exact ⟨by rw [← line_eq]; exact hl, rfl⟩
    · cases h
  | tup ws =>
    obtain ⟨p, xs, rfl, h1, h2⟩ := vr_tup.mp hv
    cases h
    refine .inr (.inl ⟨xs, h1, ?_⟩)
    have := h2.length
    cases ws <;> cases xs <;> simp_all
  | rol ws =>
    obtain ⟨p, xs, rfl, h1, h2⟩ := vr_rol.mp hv
    cases h
    refine .inl ⟨xs, h1.sql, ?_⟩
    have := h2.length
    cases ws <;> cases xs <;> simp_all
  | ref r =>
    simp only [truW] at h
    split at h
    · rename_i ws e
      obtain ⟨p, xs, rfl, _, h1, h2⟩ := R.lst e hv
      cases h
      refine .inl ⟨xs, SqL.of h1, ?_⟩
      have := h2.length
      cases ws <;> cases xs <;> simp_all
    · rename_i ws e
      obtain ⟨p, xs, rfl, _, h1, h2⟩ := R.dct e hv
      cases h
      refine .inr (.inr ⟨xs, h1, ?_⟩)
      cases ws with
      | nil => have e : xs = [] := h2; subst e; rfl
      | cons q r => obtain ⟨k, w⟩ := q; obtain ⟨x, l', e, _⟩ := h2; subst e; rfl
    · cases h

/-! ### data -/
mutual
theorem datP_ok {K : PySem.W.Frag} : ∀ {w : W} {d : PyData} {v : V}, datP w = some d → ValR K ρ H w v → Dp K H v d
  | .non, _, _, e, h => by rw [vr_non.mp h]; cases e; exact .non
  | .bl b, _, _, e, h => by rw [vr_bl.mp h]; cases e; exact .bl b
  | .int i, _, _, e, h => by rw [vr_int.mp h]; cases e; exact .int i
  | .str s, _, _, e, h => by
    rw [vr_str.mp h]
    simp only [datP] at e
    split at e
    · cases e; exact .str s
    · cases e
  | .tup ws, _, _, e, h => by
    obtain ⟨p, xs, rfl, h1, h2⟩ := vr_tup.mp h
    simp only [datP, Option.map_eq_some_iff] at e
    obtain ⟨ds, e1, rfl⟩ := e
    exact .tup h1 (datPs_ok e1 h2)
  | .rol ws, _, _, e, h => by
    obtain ⟨p, xs, rfl, h1, h2⟩ := vr_rol.mp h
    simp only [datP, Option.map_eq_some_iff] at e
    obtain ⟨ds, e1, rfl⟩ := e
    exact .lst h1.sql (datPs_ok e1 h2)
  | .ref _, _, _, e, _ => by simp [datP] at e
theorem datPs_ok {K : PySem.W.Frag} : ∀ {ws : List W} {ds : List PyData} {vs : List V}, datPs ws = some ds → ValsR K ρ H ws vs → DpAll K H vs ds
  | [], _, _, e, h => by rw [h.nil_inv]; simp [datPs] at e; subst e; exact .nil
  | w :: ws, _, _, e, h => by
    obtain ⟨x, xs, rfl, h1, h2⟩ := h.uncons
    simp only [datPs] at e
    split at e
    · rename_i d ds e1 e2
      cases e
      exact .cons (datP_ok e1 h1) (datPs_ok e2 h2)
    · cases e
end
theorem all_dp {K : PySem.W.Frag} {f : W → Option PyData} (hf : ∀ {w : W} {d : PyData} {v : V}, f w = some d → ValR K ρ H w v → Dp K H v d) :
    ∀ {ws : List W} {ds : List PyData} {vs : List V}, allSome f ws = some ds → ValsR K ρ H ws vs → DpAll K H vs ds
  | [], _, _, e, h => by rw [h.nil_inv]; simp [allSome] at e; subst e; exact .nil
  | w :: ws, _, _, e, h => by
    obtain ⟨x, xs, rfl, h1, h2⟩ := h.uncons
    simp only [allSome] at e
    split at e
    · rename_i d ds e1 e2
      cases e
      exact .cons (hf e1 h1) (all_dp hf e2 h2)
    · cases e
theorem dat_ok {K : PySem.W.Frag} (R : Rel K cl ρ vh H) : ∀ {n : Nat} {w : W} {d : PyData} {v : V}, datW vh n w = some d → ValR K ρ H w v → Dp K H v d
  | 0, _, _, _, e, h => datP_ok (by simpa [datW] using e) h
  | n + 1, .ref r, _, _, e, h => by
    simp only [datW] at e
    split at e
    · rename_i ws e1
      obtain ⟨p, xs, rfl, _, h1, h2⟩ := R.lst (listAt_some e1) h
      simp only [Option.map_eq_some_iff] at e
      obtain ⟨ds, e2, rfl⟩ := e
      exact .lst (SqL.of h1) (all_dp (fun a b => dat_ok R a b) e2 h2)
    · cases e
  | n + 1, .tup ws, _, _, e, h => by
    obtain ⟨p, xs, rfl, h1, h2⟩ := vr_tup.mp h
    simp only [datW, Option.map_eq_some_iff] at e
    obtain ⟨ds, e2, rfl⟩ := e
    exact .tup h1 (all_dp (fun a b => dat_ok R a b) e2 h2)
  | n + 1, .rol ws, _, _, e, h => by
    obtain ⟨p, xs, rfl, h1, h2⟩ := vr_rol.mp h
    simp only [datW, Option.map_eq_some_iff] at e
    obtain ⟨ds, e2, rfl⟩ := e
    exact .lst h1.sql (all_dp (fun a b => dat_ok R a b) e2 h2)
  | n + 1, .non, _, _, e, h => datP_ok (by simpa [datW] using e) h
  | n + 1, .bl _, _, _, e, h => datP_ok (by simpa [datW] using e) h
  | n + 1, .int _, _, _, e, h => datP_ok (by simpa [datW] using e) h
  | n + 1, .str _, _, _, e, h => datP_ok (by simpa [datW] using e) h

/-! ### arithmetic -/
theorem snd_add (R : Rel X.K cl ρ vh H) (ha : ValR X.K ρ H a v) (hb : ValR X.K ρ H b u) (e : addW a b vh = .ok w vh') (P : Post X.K cl ρ H vh' w Q) : WO X (binaryOp .Add) v u H Q := by
  unfold addW at e
  split at e
  · cases e
    rw [vr_int.mp ha, vr_int.mp hb]
    exact WO.of op_add ⟨_, _, rfl, rfl, P.at R (vr_int.mpr rfl)⟩
  · split at e
    · rename_i hl
      cases e
      rw [vr_str.mp ha, vr_str.mp hb]
      exact WO.of op_add_str ⟨_, _, rfl, rfl, by rw [← line_eq]; exact hl, P.at R (vr_str.mpr rfl)⟩
    · cases e
  · rename_i x y
    split at e
    · rename_i hl
      cases e
      obtain ⟨p, xs, rfl, h1, h2⟩ := vr_tup.mp ha
      obtain ⟨q, ys, rfl, h3, h4⟩ := vr_tup.mp hb
      have l1 := h2.length
      have l2 := h4.length
      refine WO.of op_catA ⟨p, q, xs, ys, rfl, rfl, h1, h3, by rw [← line_eq, l1, l2]; exact hl, fun z => ?_, fun z1 z2 => ?_, fun z1 z2 => Post.tup R P (h2.append h4)⟩
      · subst z
        have : x = [] := List.length_eq_zero_iff.mp l1.symm
        subst this
        exact P.at R (vr_tup.mpr ⟨q, ys, rfl, h3, by simpa using h4⟩)
      · subst z2
        have : y = [] := List.length_eq_zero_iff.mp l2.symm
        subst this
        exact P.at R (vr_tup.mpr ⟨p, xs, rfl, h1, by simpa using h2⟩)
    · cases e
  · rename_i r q
    split at e
    · rename_i x y hx hy
      split at e
      · rename_i hl
        cases e
        obtain ⟨p, xs, rfl, _, h1, h2⟩ := R.lst hx ha
        obtain ⟨q, ys, rfl, _, h3, h4⟩ := R.lst hy hb
        exact WO.of op_cat ⟨p, q, xs, ys, rfl, rfl, h1, h3, by rw [← line_eq, h2.length, h4.length]; exact hl, Post.lst R P (h2.append h4)⟩
      · cases e
    · cases e
  · cases e
theorem snd_mul (R : Rel X.K cl ρ vh H) (ha : ValR X.K ρ H a v) (hb : ValR X.K ρ H b u) (e : mulW a b vh = .ok w vh') (P : Post X.K cl ρ H vh' w Q) : WO X (binaryOp .Mult) v u H Q := by
  unfold mulW at e
  split at e
  · split at e
    · rename_i i j hl
      cases e
      rw [vr_int.mp ha, vr_int.mp hb]
      refine WO.of op_mul ⟨_, _, rfl, rfl, ?_, P.at R (vr_int.mpr rfl)⟩
      simp only [mulOk, Bool.or_eq_true, decide_eq_true_eq] at hl
      rcases hl with hl | hl
      · exact .inl ⟨by omega, by omega⟩
      · exact .inr ⟨by omega, by omega⟩
    · cases e
  · rename_i r j
    split at e
    · rename_i x hx
      split at e
      · rename_i hl
        obtain ⟨hl1, hl2, hl3⟩ := hl
        cases e
        obtain ⟨p, xs, rfl, _, h1, h2⟩ := R.lst hx ha
        rw [vr_int.mp hb]
        exact WO.of op_rep ⟨p, j, xs, rfl, rfl, h1, by omega, by omega, by rw [← line_eq, h2.length]; exact hl3, Post.lst R P (h2.rep _)⟩
      · cases e
    · cases e
  · rename_i x j
    split at e
    · rename_i hl
      obtain ⟨hl1, hl2, hl3, hl4⟩ := hl
      cases e
      obtain ⟨p, xs, rfl, h1, h2⟩ := vr_tup.mp ha
      rw [vr_int.mp hb]
      refine WO.of op_repT ⟨p, j, xs, rfl, rfl, h1, fun z => ?_, hl2, hl3, by rw [h2.length]; exact hl4, Post.tup R P (h2.rep _)⟩
      subst z
      exact hl1 (List.length_eq_zero_iff.mp h2.length.symm)
    · cases e
  · cases e
theorem snd_int2 {f : Int → Int → Option Int} {op : Operator} {C : Int → Int → Prop} {g : Int → Int → Int} (rule : OpR X (binaryOp op) (rI C fun i j => .int (g i j))) (hf : ∀ i j k, f i j = some k → C i j ∧ k = g i j)
    (R : Rel X.K cl ρ vh H) (ha : ValR X.K ρ H a v) (hb : ValR X.K ρ H b u) (e : int2 f a b vh = .ok w vh') (P : Post X.K cl ρ H vh' w Q) : WO X (binaryOp op) v u H Q := by
  unfold int2 at e
  split at e
  · split at e
    · rename_i i j k hk
      cases e
      obtain ⟨hc, rfl⟩ := hf _ _ _ hk
      rw [vr_int.mp ha, vr_int.mp hb]
      exact WO.of rule ⟨_, _, rfl, rfl, hc, P.at R (vr_int.mpr rfl)⟩
    · cases e
  · cases e
theorem rI0_rI {op : Operator} {g : Int → Int → Int} (h : OpR X (binaryOp op) (rI0 fun i j => .int (g i j))) : OpR X (binaryOp op) (rI (fun _ _ => True) fun i j => .int (g i j)) :=
  fun pins s σ H x y v u Q I rx ry ⟨i, j, e1, e2, _, q⟩ => h pins s σ H x y v u Q I rx ry ⟨i, j, e1, e2, q⟩
theorem ite_some {c : Prop} [Decidable c] {a b : Int} (h : (if c then some a else none) = some b) : c ∧ b = a := by
  split at h
  · rename_i hc; cases h; exact ⟨hc, rfl⟩
  · cases h
theorem pow_lt {i : Int} (h : i.natAbs < 2 ^ 60) : i.natAbs < 2 ^ 64 := by omega
theorem snd_bin {o : Bop} {o' : Operator} (hb' : bopB o o' = true) (R : Rel X.K cl ρ vh H) (ha : ValR X.K ρ H a v) (hb : ValR X.K ρ H b u) (e : binW o a b vh = .ok w vh') (P : Post X.K cl ρ H vh' w Q) : WO X (binaryOp o') v u H Q := by
  unfold bopB at hb'
  split at hb'
  · exact snd_add R ha hb e P
  · exact snd_int2 (f := binI .sub) (rI0_rI op_sub) (fun i j k h => ⟨trivial, by cases h; rfl⟩) R ha hb e P
  · exact snd_mul R ha hb e P
  · exact snd_int2 op_fdivW (fun i j k h => by
      obtain ⟨⟨h1, h2⟩, rfl⟩ := ite_some h
      exact ⟨wide_div h1 (b := 100) (by omega) (by decide) (by decide), rfl⟩) R ha hb e P
  · exact snd_int2 op_mod (fun i j k h => by
      obtain ⟨h1, rfl⟩ := ite_some h
      exact ⟨h1, rfl⟩) R ha hb e P
  · exact snd_int2 op_pow (fun i j k h => by
      obtain ⟨⟨h1, h2, h3⟩, rfl⟩ := ite_some h
      exact ⟨⟨h1, by omega, pow_lt h3⟩, rfl⟩) R ha hb e P
  · exact snd_int2 op_shl (fun i j k h => by
      obtain ⟨⟨h1, h2, h3⟩, rfl⟩ := ite_some h
      exact ⟨⟨h1, by omega, pow_lt h3⟩, rfl⟩) R ha hb e P
  · exact snd_int2 op_shr (fun i j k h => by
      obtain ⟨h1, rfl⟩ := ite_some h
      exact ⟨h1, rfl⟩) R ha hb e P
  · exact snd_int2 (f := binI .band) (rI0_rI op_and) (fun i j k h => ⟨trivial, by cases h; rfl⟩) R ha hb e P
  · exact snd_int2 (f := binI .bor) (rI0_rI op_or) (fun i j k h => ⟨trivial, by cases h; rfl⟩) R ha hb e P
  · exact snd_int2 (f := binI .bxor) (rI0_rI op_xor) (fun i j k h => ⟨trivial, by cases h; rfl⟩) R ha hb e P
  · cases hb'

/-! ### dicts -/
theorem keyW_kV {K : PySem.W.Frag} {k : Key} (h : keyW a = some k) (hv : ValR K ρ H a v) : v = kV k := by
  cases a <;> simp only [keyW] at h <;> cases h
  · exact vr_int.mp hv
  · exact vr_str.mp hv
theorem kvr_get {K : PySem.W.Frag} {k : Key} : ∀ {ws : List (Key × W)} {xs : List (Key × V)}, KvR K ρ H ws xs → match dget ws k with | some w => ∃ x, valV xs k = some x ∧ ValR K ρ H w x | none => valV xs k = none
  | [], _, h => by rw [show _ = [] from h]; rfl
  | (j, w) :: r, _, h => by
    obtain ⟨x, l', rfl, h1, h2⟩ := h
    have ih := kvr_get (k := k) h2
    by_cases hj : j = k
    · simp only [dget, if_pos hj]
      exact ⟨x, valV_pos hj, h1⟩
    · simp only [dget, if_neg hj]
      rw [valV_neg (p := (j, x)) (r := l') hj]
      exact ih
theorem kvr_some {K : PySem.W.Frag} {k : Key} {ws : List (Key × W)} {xs : List (Key × V)} (h : KvR K ρ H ws xs) (e : dget ws k = some w) : ∃ x, valV xs k = some x ∧ ValR K ρ H w x := by
  have := kvr_get (k := k) h
  rw [e] at this; exact this
theorem kvr_isSome {K : PySem.W.Frag} {k : Key} {ws : List (Key × W)} {xs : List (Key × V)} (h : KvR K ρ H ws xs) : (valV xs k).isSome = (dget ws k).isSome := by
  have := kvr_get (k := k) h
  cases e : dget ws k with
  | some w => rw [e] at this; obtain ⟨x, h1, _⟩ := this; rw [h1]; rfl
  | none => rw [e] at this; rw [this]; rfl
theorem kvr_length {K : PySem.W.Frag} {κ : Type} : ∀ {ws : List (κ × W)} {xs : List (κ × V)}, KvR K ρ H ws xs → xs.length = ws.length
  | [], _, h => by rw [show _ = [] from h]; rfl
  | (j, w) :: r, _, h => by
    obtain ⟨x, l', rfl, h1, h2⟩ := h
    rw [List.length_cons, List.length_cons, kvr_length h2]
theorem kvr_any {K : PySem.W.Frag} {k : Key} : ∀ {ws : List (Key × W)} {xs : List (Key × V)}, KvR K ρ H ws xs → (xs.any fun p => decide (p.1 = k)) = ws.any fun p => decide (p.1 = k)
  | [], _, h => by rw [show _ = [] from h]; rfl
  | (j, w) :: r, _, h => by
    obtain ⟨x, l', rfl, h1, h2⟩ := h
    rw [List.any_cons, List.any_cons, kvr_any h2]
theorem kvr_map {K : PySem.W.Frag} {k : Key} {y : V} (hy : ValR K ρ H w y) : ∀ {ws : List (Key × W)} {xs : List (Key × V)}, KvR K ρ H ws xs →
    KvR K ρ H (ws.map fun p => if p.1 = k then (p.1, w) else p) (xs.map fun p => if p.1 = k then (p.1, y) else p)
  | [], _, h => by rw [show _ = [] from h]; rfl
  | (j, u) :: r, _, h => by
    obtain ⟨x, l', rfl, h1, h2⟩ := h
    have ih := kvr_map (k := k) hy h2
    by_cases hj : j = k
    · simp only [List.map_cons, if_pos hj]
      exact ⟨y, _, rfl, hy, ih⟩
    · simp only [List.map_cons, if_neg hj]
      exact ⟨x, _, rfl, h1, ih⟩
theorem kvr_app {K : PySem.W.Frag} {κ : Type} {k : κ} {y : V} (hy : ValR K ρ H w y) : ∀ {ws : List (κ × W)} {xs : List (κ × V)}, KvR K ρ H ws xs → KvR K ρ H (ws ++ [(k, w)]) (xs ++ [(k, y)])
  | [], _, h => by rw [show _ = [] from h]; exact ⟨y, [], rfl, hy, rfl⟩
  | (j, u) :: r, _, h => by
    obtain ⟨x, l', rfl, h1, h2⟩ := h
    exact ⟨x, _, rfl, h1, kvr_app hy h2⟩
theorem kvr_put {K : PySem.W.Frag} {k : Key} {y : V} {ws : List (Key × W)} {xs : List (Key × V)} (h : KvR K ρ H ws xs) (hy : ValR K ρ H w y) : KvR K ρ H (dset ws k w) (putK xs k y) := by
  unfold dset putK
  rw [kvr_any h]
  split
  · exact kvr_map hy h
  · exact kvr_app hy h

/-! ### == and in -/
theorem flat_of {K : PySem.W.Frag} (hv : ValR K ρ H w v) (h : flatW w = true) : flatV v = true := by
  cases w <;> simp only [flatW] at h <;> first | cases h | skip
  · rw [vr_non.mp hv]; rfl
  · rw [vr_bl.mp hv]; rfl
  · rw [vr_int.mp hv]; rfl
  · rw [vr_str.mp hv]; rfl
theorem eqF_of {K : PySem.W.Frag} {x : W} {z : V} (hv : ValR K ρ H w v) (h : flatW w = true) (hz : ValR K ρ H x z) (h' : flatW x = true) : eqV v z = eqF w x := by
  cases w <;> simp only [flatW] at h <;> first | cases h | skip
  all_goals (cases x <;> simp only [flatW] at h' <;> first | cases h' | skip)
  all_goals (first | rw [vr_non.mp hv] | rw [vr_bl.mp hv] | rw [vr_int.mp hv] | rw [vr_str.mp hv])
  all_goals (first | rw [vr_non.mp hz] | rw [vr_bl.mp hz] | rw [vr_int.mp hz] | rw [vr_str.mp hz])
  all_goals rfl
theorem flats_of {K : PySem.W.Frag} : ∀ {ws : List W} {xs : List V}, ValsR K ρ H ws xs → ws.all flatW = true → xs.all flatV = true
  | [], _, h, _ => by rw [h.nil_inv]; rfl
  | w :: ws, _, h, e => by
    obtain ⟨x, xs, rfl, h1, h2⟩ := h.uncons
    rw [List.all_cons, Bool.and_eq_true] at e ⊢
    exact ⟨flat_of h1 e.1, flats_of h2 e.2⟩
theorem any_of {K : PySem.W.Frag} (hv : ValR K ρ H w v) (h : flatW w = true) : ∀ {ws : List W} {xs : List V}, ValsR K ρ H ws xs → ws.all flatW = true → (xs.any fun y => eqV y v) = ws.any fun y => eqF y w
  | [], _, h, _ => by rw [h.nil_inv]; rfl
  | a :: ws, _, hs, e => by
    obtain ⟨x, xs, rfl, h1, h2⟩ := hs.uncons
    rw [List.all_cons, Bool.and_eq_true] at e
    rw [List.any_cons, List.any_cons, any_of hv h h2 e.2, eqF_of h1 e.1 hv h]
theorem snd_eqD {k : Bool} (hu : X.A.units + 64 < cLine) (R : Rel X.K cl ρ vh H) (ha : ValR X.K ρ H a v) (hb : ValR X.K ρ H b u) (e : eqD vh a b = some k) : (Q (.bl k) H → WO X (compareOp .Eq) v u H Q) ∧ (Q (.bl (!k)) H → WO X (compareOp .NotEq) v u H Q) := by
  unfold eqD at e
  split at e
  · rename_i d f e1 e2
    split at e
    · rename_i hs
      cases e
      exact ⟨fun q => WO.of (op_eqD hu) ⟨d, f, dat_ok R e1 ha, dat_ok R e2 hb, hs.1, hs.2, q⟩, fun q => WO.of (op_neD hu) ⟨d, f, dat_ok R e1 ha, dat_ok R e2 hb, hs.1, hs.2, q⟩⟩
    · cases e
  · cases e
theorem snd_eq {k : Bool} (hu : X.A.units + 64 < cLine) (R : Rel X.K cl ρ vh H) (ha : ValR X.K ρ H a v) (hb : ValR X.K ρ H b u) (e : eqW vh a b = some k) : (Q (.bl k) H → WO X (compareOp .Eq) v u H Q) ∧ (Q (.bl (!k)) H → WO X (compareOp .NotEq) v u H Q) := by
  unfold eqW at e
  split at e
  · cases e
    rw [vr_int.mp ha, vr_int.mp hb]
    refine ⟨fun q => WO.of op_eq ⟨rfl, ?_⟩, fun q => WO.of op_ne ⟨rfl, ?_⟩⟩ <;> simpa using q
  · cases e
    rw [vr_str.mp ha, vr_str.mp hb]
    refine ⟨fun q => WO.of op_eq ⟨rfl, ?_⟩, fun q => WO.of op_ne ⟨rfl, ?_⟩⟩ <;> simpa using q
  · cases e
    rw [vr_bl.mp ha, vr_bl.mp hb]
    refine ⟨fun q => WO.of op_eq ⟨rfl, ?_⟩, fun q => WO.of op_ne ⟨rfl, ?_⟩⟩ <;> simpa using q
  · exact snd_eqD hu R ha hb e
theorem snd_inF {K : PySem.W.Frag} {k : Bool} {ws : List W} {p : Addr} {xs : List V} (ha : ValR X.K ρ H a v) (hs : SqL X.K H p xs ∨ SqT X.K H p xs) (hv : ValsR X.K ρ H ws xs) (e : inF a ws = some k) :
    (Q (.bl k) H → WO X (compareOp .In) v (.ref p) H Q) ∧ (Q (.bl (!k)) H → WO X (compareOp .NotIn) v (.ref p) H Q) := by
  unfold inF at e
  split at e
  · rename_i hc
    cases e
    have he := any_of ha hc.1 hv hc.2
    refine ⟨fun q => WO.of op_in_seq ⟨p, xs, rfl, hs, flat_of ha hc.1, flats_of hv hc.2, ?_⟩, fun q => WO.of op_notIn_seq ⟨p, xs, rfl, hs, flat_of ha hc.1, flats_of hv hc.2, ?_⟩⟩
    · unfold inV; rw [he]; exact q
    · unfold inV; rw [he]; exact q
  · cases e
theorem snd_inL {k : Bool} {ws : List W} {p : Addr} {xs : List V} (hu : X.A.units + 65 < cLine) (R : Rel X.K cl ρ vh H) (ha : ValR X.K ρ H a v) (hs : SqL X.K H p xs) (hv : ValsR X.K ρ H ws xs) (e : inL vh a ws = some k) :
    (Q (.bl k) H → WO X (compareOp .In) v (.ref p) H Q) ∧ (Q (.bl (!k)) H → WO X (compareOp .NotIn) v (.ref p) H Q) := by
  unfold inL at e
  split at e
  · rename_i b e1
    cases e
    exact snd_inF (K := X.K) ha (.inl hs) hv e1
  · unfold inD at e
    split at e
    · rename_i d ds e1 e2
      split at e
      · rename_i hc
        cases e
        have hd := dat_ok R e1 ha
        have hl : Dp X.K H (.ref p) (.list ds) := .lst hs (all_dp (fun a b => dat_ok R a b) e2 hv)
        exact ⟨fun q => WO.of (op_inD hu) ⟨d, ds, hd, hl, hc.1, hc.2, q⟩, fun q => WO.of (op_notInD hu) ⟨d, ds, hd, hl, hc.1, hc.2, q⟩⟩
      · cases e
    · cases e
/-- a dict's in -/
theorem dk_in {f : CmpOp} {p : Addr} {l : List (Key × V)} {k : Key} (hu : X.A.units + 1 < cLine) (hd : H p = some (.dK l)) : (Q (.bl (valV l k).isSome) H → WO X (compareOp .In) (kV k) (.ref p) H Q) ∧ (Q (.bl (!(valV l k).isSome)) H → WO X (compareOp .NotIn) (kV k) (.ref p) H Q) := by
  refine ⟨fun q pins s σ v u I rv ru => ?_, fun q pins s σ v u I rv ru => ?_⟩
  · cases (show u = Value.ref p from ru)
    exact d_in hu I (DGet.k hd) rv fun s' I' => ⟨.bl _, H, I', rfl, q⟩
  · cases (show u = Value.ref p from ru)
    exact d_notIn hu I (DGet.k hd) rv fun s' I' => ⟨.bl _, H, I', rfl, q⟩
theorem snd_in {k : Bool} (hu : X.A.units + 65 < cLine) (R : Rel X.K cl ρ vh H) (ha : ValR X.K ρ H a v) (hb : ValR X.K ρ H b u) (e : inW vh a b = some k) :
    (Q (.bl k) H → WO X (compareOp .In) v u H Q) ∧ (Q (.bl (!k)) H → WO X (compareOp .NotIn) v u H Q) := by
  cases b with
  | tup ws =>
    obtain ⟨p, xs, rfl, h1, h2⟩ := vr_tup.mp hb
    exact snd_inF (K := X.K) ha (.inr h1) h2 e
  | rol ws =>
    obtain ⟨p, xs, rfl, h1, h2⟩ := vr_rol.mp hb
    exact snd_inL hu R ha h1.sql h2 e
  | ref r =>
    simp only [inW] at e
    split at e
    · rename_i kvs hk
      obtain ⟨p, l, rfl, _, h1, h2⟩ := R.dct hk hb
      simp only [Option.map_eq_some_iff] at e
      obtain ⟨j, e1, rfl⟩ := e
      rw [keyW_kV e1 ha, ← kvr_isSome h2]
      exact dk_in (f := .In) (by omega) h1
    · rename_i ws hk
      obtain ⟨p, xs, rfl, _, h1, h2⟩ := R.lst hk hb
      exact snd_inL hu R ha (SqL.of h1) h2 e
    · cases e
  | _ => cases e
def isNon : W → Bool | .non => true | _ => false
theorem isNon_of {K : PySem.W.Frag} (hv : ValR K ρ H w v) : decide (v = .non) = isNon w := by
  cases w with
  | non => rw [vr_non.mp hv]; rfl
  | bl _ => rw [vr_bl.mp hv]; rfl
  | int _ => rw [vr_int.mp hv]; rfl
  | str _ => rw [vr_str.mp hv]; rfl
  | tup _ => obtain ⟨p, xs, rfl, _⟩ := vr_tup.mp hv; rfl
  | rol _ => obtain ⟨p, xs, rfl, _⟩ := vr_rol.mp hv; rfl
  | ref _ => obtain ⟨p, rfl, _⟩ := vr_ref.mp hv; rfl
theorem snd_cmp {o : Cop} {o' : CmpOp} {k : Bool} (ho : copB o o' = true) (hu : X.A.units + 65 < cLine) (R : Rel X.K cl ρ vh H) (ha : ValR X.K ρ H a v) (hb : ValR X.K ρ H b u) (e : cmpW o a b vh = some k) (q : Q (.bl k) H) :
    WO X (compareOp o') v u H Q := by
  unfold copB at ho
  split at ho
  · exact (snd_eq (by omega) R ha hb e).1 q
  · simp only [cmpW, Option.map_eq_some_iff] at e
    obtain ⟨j, e1, rfl⟩ := e
    exact (snd_eq (by omega) R ha hb e1).2 q
  · simp only [cmpW] at e
    split at e <;> cases e
    rw [vr_int.mp ha, vr_int.mp hb]; exact WO.of op_lt ⟨_, _, rfl, rfl, q⟩
  · simp only [cmpW] at e
    split at e <;> cases e
    rw [vr_int.mp ha, vr_int.mp hb]; exact WO.of op_le ⟨_, _, rfl, rfl, q⟩
  · simp only [cmpW] at e
    split at e <;> cases e
    rw [vr_int.mp ha, vr_int.mp hb]; exact WO.of op_gt ⟨_, _, rfl, rfl, q⟩
  · simp only [cmpW] at e
    split at e <;> cases e
    rw [vr_int.mp ha, vr_int.mp hb]; exact WO.of op_ge ⟨_, _, rfl, rfl, q⟩
  · simp only [cmpW] at e
    split at e
    · cases e
      rw [vr_non.mp ha, vr_non.mp hb]; exact WO.of op_isN ⟨rfl, q⟩
    · rename_i hn
      cases e
      rw [vr_non.mp hb]
      refine WO.of op_isN ⟨rfl, ?_⟩
      rw [isNon_of ha]
      cases a <;> first | exact q | exact absurd rfl (hn)
    · cases e
      rw [vr_bl.mp ha, vr_bl.mp hb]
      exact WO.of op_isBl ⟨_, _, rfl, rfl, by rw [← Bool.beq_eq_decide_eq]; exact q⟩
    · cases e
  · simp only [cmpW] at e
    split at e
    · cases e
      rw [vr_non.mp ha, vr_non.mp hb]; exact WO.of op_notN ⟨rfl, q⟩
    · rename_i hn
      cases e
      rw [vr_non.mp hb]
      refine WO.of op_notN ⟨rfl, ?_⟩
      rw [isNon_of ha]
      cases a <;> first | exact q | exact absurd rfl (hn)
    · cases e
      rw [vr_bl.mp ha, vr_bl.mp hb]
      exact WO.of op_notBl ⟨_, _, rfl, rfl, by rw [← Bool.beq_eq_decide_eq]; exact q⟩
    · cases e
  · exact (snd_in hu R ha hb e).1 q
  · simp only [cmpW, Option.map_eq_some_iff] at e
    obtain ⟨j, e1, rfl⟩ := e
    exact (snd_in hu R ha hb e1).2 q
  · cases ho
end
end Nw

set_option Elab.async false
set_option linter.all false
set_option maxRecDepth 100000
set_option maxHeartbeats 1000000
/-! Nw, part E: places, slices, calls of built-ins, methods of lists, by values. -/
namespace Nw
open PySem PySem.Spec PyProof.Rows L2

section
variable {X : Cx} {cl : Nat → Option Addr} {ρ : List Addr} {vh vh' : VH} {H : Hp} {Q : VK} {w a b : W} {v u : V}

/-! ### isinstance -/
def tyStr : Ty → String
  | .tuple => "tuple" | .list => "list" | .str => "str" | .int => "int" | .bool => "bool" | .dict => "dict"
theorem kit_all : ∀ s t : Ty, kitB (tyStr s) (tyStr t) = some (s == t || (s == .bool && t == .int)) := by
  intro s t
  cases s <;> cases t <;> decide +kernel
theorem kit_non : ∀ t : Ty, kitB "NoneType" (tyStr t) = some false := by
  intro t
  cases t <;> decide +kernel
theorem tyX_of {K : PySem.W.Frag} {t : Ty} (R : Rel K cl ρ vh H) (h : tyW vh w = some t) (hv : ValR K ρ H w v) : TyX K H v (.type (tyStr t)) := by
  cases w with
  | non => cases h
  | bl b => cases h; rw [vr_bl.mp hv]; exact .base (.bl b)
  | int b => cases h; rw [vr_int.mp hv]; exact .base (.int b)
  | str b => cases h; rw [vr_str.mp hv]; exact .base (.str b)
  | tup ws =>
    cases h
    obtain ⟨p, xs, rfl, h1, _⟩ := vr_tup.mp hv
    rcases h1 with (h1 | ⟨o, h1⟩) | ⟨o, its, n, hk, hc, _⟩
    · exact .base (.tup h1)
    · exact .fTuple h1
    · exact .kTuple hk hc
  | rol ws =>
    cases h
    obtain ⟨p, xs, rfl, h1, _⟩ := vr_rol.mp hv
    rcases h1 with ⟨o, h1⟩ | ⟨o, its, n, hk, hc, _⟩
    · exact .base (.frz h1)
    · exact .kList hk hc
  | ref r =>
    simp only [tyW] at h
    split at h <;> cases h
    · rename_i e
      obtain ⟨p, xs, rfl, _, h1, _⟩ := R.lst e hv
      exact .base (.lst h1)
    · rename_i e
      obtain ⟨p, xs, rfl, _, h1, _⟩ := R.dct e hv
      exact .base (.dK h1)
theorem snd_isi {t : Ty} {k : Bool} (R : Rel X.K cl ρ vh H) (hv : ValR X.K ρ H w v) (h : isiW vh t w = some k) (q : Q (.bl k) H) : WC X (.builtin "isinstance") [v, .ty (tyStr t)] H Q := by
  have key : ∀ s : Ty, tyW vh w = some s → k = (s == t || (s == .bool && t == .int)) → WC X (.builtin "isinstance") [v, .ty (tyStr t)] H Q := fun s hs hk =>
    WC.of call_isi ⟨v, .ty (tyStr t), .type (tyStr s), .type (tyStr t), k, rfl, .ty _, tyX_of R hs hv, by rw [kit_ty (kit_all s t), hk], q⟩
  cases w with
  | non =>
    cases h
    rw [vr_non.mp hv]
    exact WC.of call_isi ⟨.non, .ty (tyStr t), .type "NoneType", .type (tyStr t), false, rfl, .ty _, .base .non, kit_ty (kit_non t), q⟩
  | bl b =>
    cases h
    refine key .bool rfl ?_
    cases t <;> rfl
  | int b => 
    refine key .int rfl ?_
    simp only [isiW, tyW, Option.map_some] at h
    cases h; cases t <;> rfl
  | str b =>
    refine key .str rfl ?_
    simp only [isiW, tyW, Option.map_some] at h
    cases h; cases t <;> rfl
  | tup b =>
    refine key .tuple rfl ?_
    simp only [isiW, tyW, Option.map_some] at h
    cases h; cases t <;> rfl
  | rol b =>
    refine key .list rfl ?_
    simp only [isiW, tyW, Option.map_some] at h
    cases h; cases t <;> rfl
  | ref r =>
    have h' : (tyW vh (.ref r)).map (· == t) = some k := h
    cases e : tyW vh (.ref r) with
    | none => rw [e] at h'; cases h'
    | some s =>
      rw [e] at h'
      refine key s e ?_
      cases h'
      have : s = .list ∨ s = .dict := by
        simp only [tyW] at e
        split at e <;> cases e
        · exact .inl rfl
        · exact .inr rfl
      rcases this with rfl | rfl <;> cases t <;> rfl

/-! ### a place -/
theorem atI_of {K : PySem.W.Frag} {ws : List W} {xs : List V} {i : Int} (hv : ValsR K ρ H ws xs) (h : atW ws i = some w) : ∃ x, atI xs i = some x ∧ ValR K ρ H w x := by
  have hl := hv.length
  unfold atW at h
  unfold atI ixN
  rw [hl]
  split at h
  · rename_i h0
    obtain ⟨x, hx, hr⟩ := hv.get h
    have hlt := (List.getElem?_eq_some_iff.mp h).1
    exact ⟨x, by rw [if_pos h0, if_pos (by omega)]; exact hx, hr⟩
  · rename_i h0
    split at h
    · rename_i h1
      obtain ⟨x, hx, hr⟩ := hv.get h
      exact ⟨x, by rw [if_neg h0, if_pos h1]; exact hx, hr⟩
    · cases h
def WX (X : Cx) (value slice : Expr) : R2 := fun x y H Q => ∀ (pins : List (Addr × Obj)) (s : Shared) (σ : L2.St) (v u : Value), Inv X pins σ H s → RelV x v → RelV y u →
    subscripted slice false v u = operate [v, u] (getItem v u) → wpAny (model X.prog X.w) X.A (subscriptTail value slice v u) (EP X pins σ Q) X.xe s
/-- o[i] of a list or tuple -/
theorem snd_ixS {ws : List W} {p : Addr} {xs : List V} {i : Int} (R : Rel X.K cl ρ vh H) (hs : SqL X.K H p xs ∨ SqT X.K H p xs) (hv : ValsR X.K ρ H ws xs) (h : atW ws i = some w) (P : Post X.K cl ρ H vh w Q) : rIx X.K (.ref p) (.int i) H Q := by
  obtain ⟨x, hx, hr⟩ := atI_of hv h
  rcases hs with hs | hs
  · exact .inl ⟨p, xs, i, x, rfl, rfl, hs, hx, P.at R hr⟩
  · exact .inr (.inl ⟨p, xs, i, x, rfl, rfl, hs, hx, P.at R hr⟩)

/-! ### a slice -/
theorem cut_length {α : Type} (ws : List α) (lo hi : Option Int) : (cut ws lo hi).length ≤ ws.length := by
  unfold cut; rw [List.length_take, List.length_drop]; omega
theorem cut_of {K : PySem.W.Frag} {ws : List W} {xs : List V} (hv : ValsR K ρ H ws xs) (lo hi : Option Int) : ValsR K ρ H (cut ws lo hi) (cutV xs lo hi) := by
  unfold cut cutV
  rw [hv.length]
  exact (hv.drop _).take _
theorem cut_whole {α : Type} {ws : List α} {lo hi : Option Int} (h : HT.sIx ws.length 0 lo = 0 ∧ HT.sIx ws.length ws.length hi = ws.length) : cut ws lo hi = ws := by
  unfold cut; rw [h.1, h.2]; simp
def rSlN (K : PySem.W.Frag) : V → Option Int → Option Int → Hp → VK → Prop := fun x lo hi H Q => rSlA K x lo hi H Q ∨ rSlL K x lo hi H Q
theorem sl_n : SlR X (rSlN X.K) := sl_tupA.or sl_list
theorem snd_sl {lo hi : Option Int} (R : Rel X.K cl ρ vh H) (hv : ValR X.K ρ H a v) (h : slW a lo hi vh = .ok w vh') (P : Post X.K cl ρ H vh' w Q) : rSlN X.K v lo hi H Q := by
  cases a with
  | tup ws =>
    cases h
    obtain ⟨p, xs, rfl, h1, h2⟩ := vr_tup.mp hv
    refine .inl ⟨p, xs, rfl, h1, fun z => ?_, fun z => Post.tup R P (cut_of h2 lo hi)⟩
    have e : cut ws lo hi = ws := cut_whole (by rw [← h2.length]; exact z)
    exact P.at R (vr_tup.mpr ⟨p, xs, rfl, h1, by rw [e]; exact h2⟩)
  | rol ws =>
    cases h
    obtain ⟨p, xs, rfl, h1, h2⟩ := vr_rol.mp hv
    exact .inr ⟨p, xs, rfl, h1.sql, Post.lst R P (cut_of h2 lo hi)⟩
  | ref r =>
    simp only [slW] at h
    split at h
    · rename_i ws e
      cases h
      obtain ⟨p, xs, rfl, _, h1, h2⟩ := R.lst (listAt_some e) hv
      exact .inr ⟨p, xs, rfl, SqL.of h1, Post.lst R P (cut_of h2 lo hi)⟩
    · cases h
  | _ => cases h

/-! ### built-ins -/
theorem intsAt_of {K : PySem.W.Frag} {ns : List Int} (R : Rel K cl ρ vh H) (h : intsAt vh w = some ns) (hv : ValR K ρ H w v) : ∃ p, v = .ref p ∧ SqL K H p (ns.map V.int) := by
  cases w with
  | rol ws =>
    obtain ⟨p, xs, rfl, h1, h2⟩ := vr_rol.mp hv
    have e := h2.ints h
    subst e
    exact ⟨p, rfl, h1.sql⟩
  | ref r =>
    simp only [intsAt] at h
    split at h
    · rename_i ws e
      obtain ⟨p, xs, rfl, _, h1, h2⟩ := R.lst (listAt_some e) hv
      have e := h2.ints h
      subst e
      exact ⟨p, rfl, SqL.of h1⟩
    · cases h
  | _ => cases h
theorem foldl_max : ∀ (r : List Int) (a : Int), (r.foldl max a = a ∨ r.foldl max a ∈ r) ∧ a ≤ r.foldl max a ∧ ∀ y ∈ r, y ≤ r.foldl max a
  | [], a => ⟨.inl rfl, Int.le_refl _, fun y h => by cases h⟩
  | b :: r, a => by
    obtain ⟨h1, h2, h3⟩ := foldl_max r (max a b)
    rw [List.foldl_cons]
    refine ⟨?_, by omega, fun y hy => ?_⟩
    · rcases h1 with h1 | h1
      · by_cases hc : a ≤ b
        · right; rw [h1, show max a b = b from by omega]; simp
        · left; rw [h1]; omega
      · right; exact List.mem_cons_of_mem _ h1
    · rcases List.mem_cons.mp hy with rfl | hy
      · omega
      · exact h3 y hy
theorem foldl_min : ∀ (r : List Int) (a : Int), (r.foldl min a = a ∨ r.foldl min a ∈ r) ∧ r.foldl min a ≤ a ∧ ∀ y ∈ r, r.foldl min a ≤ y
  | [], a => ⟨.inl rfl, Int.le_refl _, fun y h => by cases h⟩
  | b :: r, a => by
    obtain ⟨h1, h2, h3⟩ := foldl_min r (min a b)
    rw [List.foldl_cons]
    refine ⟨?_, by omega, fun y hy => ?_⟩
    · rcases h1 with h1 | h1
      · by_cases hc : b ≤ a
        · right; rw [h1, show min a b = b from by omega]; simp
        · left; rw [h1]; omega
      · right; exact List.mem_cons_of_mem _ h1
    · rcases List.mem_cons.mp hy with rfl | hy
      · omega
      · exact h3 y hy
theorem maxI_spec {ns : List Int} (h : ns ≠ []) : maxI ns ∈ ns ∧ ∀ y ∈ ns, y ≤ maxI ns := by
  cases ns with
  | nil => exact absurd rfl h
  | cons a r =>
    obtain ⟨h1, h2, h3⟩ := foldl_max r a
    refine ⟨?_, fun y hy => ?_⟩
    · rcases h1 with h1 | h1
      · show r.foldl max a ∈ _; rw [h1]; simp
      · exact List.mem_cons_of_mem _ h1
    · rcases List.mem_cons.mp hy with rfl | hy
      · exact h2
      · exact h3 y hy
theorem minI_spec {ns : List Int} (h : ns ≠ []) : minI ns ∈ ns ∧ ∀ y ∈ ns, minI ns ≤ y := by
  cases ns with
  | nil => exact absurd rfl h
  | cons a r =>
    obtain ⟨h1, h2, h3⟩ := foldl_min r a
    refine ⟨?_, fun y hy => ?_⟩
    · rcases h1 with h1 | h1
      · show r.foldl min a ∈ _; rw [h1]; simp
      · exact List.mem_cons_of_mem _ h1
    · rcases List.mem_cons.mp hy with rfl | hy
      · exact h2
      · exact h3 y hy
def biVal : Bi → Value
  | .len => .builtin "len" | .abs => .builtin "abs" | .int => .type "int" | .str => .type "str" | .list => .type "list" | .tuple => .type "tuple" | .max => .builtin "max" | .min => .builtin "min" | .sum => .builtin "sum" | .sorted => .builtin "sorted" | .repr => .builtin "repr" | .all => .builtin "all"
theorem log2_lt64 {n : Nat} (h : n < 2 ^ 64) : n.log2 < 1920 := by
  by_cases h0 : n = 0
  · subst h0; decide
  · have := (Nat.log2_lt h0).mpr h
    omega
theorem snd_bi {f : Bi} {as : List W} {vs : List V} (hc : X.calm = true) (R : Rel X.K cl ρ vh H) (hv : ValsR X.K ρ H as vs) (h : biW f as vh = .ok w vh') (P : Post X.K cl ρ H vh' w Q) : WC X (biVal f) vs H Q := by
  unfold biW at h
  split at h
  · -- len str
    obtain ⟨x, xs, rfl, h1, h2⟩ := hv.uncons
    rw [h2.nil_inv, vr_str.mp h1]
    split at h
    · rename_i hl
      cases h
      exact WC.of call_len_str ⟨_, rfl, by rw [← line_eq]; exact hl, P.at R (vr_int.mpr rfl)⟩
    · cases h
  · obtain ⟨x, xs, rfl, h1, h2⟩ := hv.uncons
    rw [h2.nil_inv]
    cases h
    obtain ⟨p, xs, rfl, h3, h4⟩ := vr_tup.mp h1
    exact WC.of call_len_seq ⟨p, xs, rfl, .inr h3, by rw [h4.length]; exact P.at R (vr_int.mpr rfl)⟩
  · obtain ⟨x, xs, rfl, h1, h2⟩ := hv.uncons
    rw [h2.nil_inv]
    cases h
    obtain ⟨p, xs, rfl, h3, h4⟩ := vr_rol.mp h1
    exact WC.of call_len_seq ⟨p, xs, rfl, .inl h3.sql, by rw [h4.length]; exact P.at R (vr_int.mpr rfl)⟩
  · obtain ⟨x, xs, rfl, h1, h2⟩ := hv.uncons
    rw [h2.nil_inv]
    split at h <;> cases h
    · rename_i e
      obtain ⟨p, xs, rfl, _, h3, h4⟩ := R.lst e h1
      exact WC.of call_len_seq ⟨p, xs, rfl, .inl (SqL.of h3), by rw [h4.length]; exact P.at R (vr_int.mpr rfl)⟩
    · rename_i e
      obtain ⟨p, xs, rfl, _, h3, h4⟩ := R.dct e h1
      exact WC.of call_lenD ⟨p, xs, rfl, h3, by rw [kvr_length h4]; exact P.at R (vr_int.mpr rfl)⟩
  · obtain ⟨x, xs, rfl, h1, h2⟩ := hv.uncons
    rw [h2.nil_inv, vr_int.mp h1]
    cases h
    exact WC.of call_abs ⟨_, rfl, P.at R (vr_int.mpr rfl)⟩
  · obtain ⟨x, xs, rfl, h1, h2⟩ := hv.uncons
    rw [h2.nil_inv, vr_int.mp h1]
    cases h
    exact WC.of call_int1 (.inl ⟨_, rfl, P.at R (vr_int.mpr rfl)⟩)
  · obtain ⟨x, xs, rfl, h1, h2⟩ := hv.uncons
    rw [h2.nil_inv, vr_bl.mp h1]
    cases h
    exact WC.of call_int1 (.inr ⟨_, rfl, P.at R (vr_int.mpr rfl)⟩)
  · obtain ⟨x, xs, rfl, h1, h2⟩ := hv.uncons
    rw [h2.nil_inv, vr_int.mp h1]
    split at h
    · rename_i hl
      cases h
      exact WC.of call_str_int ⟨_, rfl, log2_lt64 hl, P.at R (vr_str.mpr rfl)⟩
    · cases h
  · obtain ⟨x, xs, rfl, h1, h2⟩ := hv.uncons
    rw [h2.nil_inv]
    split at h
    · rename_i ws e
      cases h
      obtain ⟨p, xs, rfl, h3, h4⟩ := seq_of R e h1
      exact WC.of call_list_of ⟨p, xs, rfl, h3, Post.lst R P h4⟩
    · cases h
  · obtain ⟨x, xs, rfl, h1, h2⟩ := hv.uncons
    rw [h2.nil_inv]
    cases h
    obtain ⟨p, xs, rfl, h3, h4⟩ := vr_tup.mp h1
    exact WC.of call_tuple_of ⟨p, xs, rfl, .inr ⟨h3, P.at R (vr_tup.mpr ⟨p, xs, rfl, h3, h4⟩)⟩⟩
  · obtain ⟨x, xs, rfl, h1, h2⟩ := hv.uncons
    rw [h2.nil_inv]
    split at h
    · rename_i ws e
      cases h
      obtain ⟨p, xs, rfl, h3, h4⟩ := seq_of R e h1
      rcases h3 with h3 | h3
      · exact WC.of call_tuple_of ⟨p, xs, rfl, .inl ⟨h3, Post.tup R P h4⟩⟩
      · exact WC.of call_tuple_of ⟨p, xs, rfl, .inr ⟨h3, P.at R (vr_tup.mpr ⟨p, xs, rfl, h3, h4⟩)⟩⟩
    · cases h
  · obtain ⟨x, xs, rfl, h1, h2⟩ := hv.uncons
    obtain ⟨y, ys, rfl, h3, h4⟩ := h2.uncons
    rw [h4.nil_inv, vr_int.mp h1, vr_int.mp h3]
    cases h
    exact WC.of (call_max2 hc) ⟨_, _, rfl, P.at R (vr_int.mpr rfl)⟩
  · obtain ⟨x, xs, rfl, h1, h2⟩ := hv.uncons
    obtain ⟨y, ys, rfl, h3, h4⟩ := h2.uncons
    rw [h4.nil_inv, vr_int.mp h1, vr_int.mp h3]
    cases h
    exact WC.of (call_min2 hc) ⟨_, _, rfl, P.at R (vr_int.mpr rfl)⟩
  · obtain ⟨x, xs, rfl, h1, h2⟩ := hv.uncons
    rw [h2.nil_inv]
    split at h
    · rename_i ns e
      split at h
      · cases h
      · rename_i hne
        cases h
        obtain ⟨p, rfl, h3⟩ := intsAt_of R e h1
        refine WC.of (cr_max hc) ⟨p, ns, rfl, h3, List.length_pos_iff.mpr hne, fun m hm hmax => ?_⟩
        obtain ⟨s1, s2⟩ := maxI_spec hne
        have : m = maxI ns := Int.le_antisymm (s2 m hm) (hmax _ s1)
        subst this
        exact P.at R (vr_int.mpr rfl)
    · cases h
  · obtain ⟨x, xs, rfl, h1, h2⟩ := hv.uncons
    rw [h2.nil_inv]
    split at h
    · rename_i ns e
      split at h
      · cases h
      · rename_i hne
        cases h
        obtain ⟨p, rfl, h3⟩ := intsAt_of R e h1
        refine WC.of (cr_min hc) ⟨p, ns, rfl, h3, List.length_pos_iff.mpr hne, fun m hm hmax => ?_⟩
        obtain ⟨s1, s2⟩ := minI_spec hne
        have : m = minI ns := Int.le_antisymm (hmax _ s1) (s2 m hm)
        subst this
        exact P.at R (vr_int.mpr rfl)
    · cases h
  · obtain ⟨x, xs, rfl, h1, h2⟩ := hv.uncons
    rw [h2.nil_inv]
    split at h
    · rename_i ns e
      cases h
      obtain ⟨p, rfl, h3⟩ := intsAt_of R e h1
      exact WC.of (cr_sum hc) ⟨p, ns, rfl, h3, P.at R (vr_int.mpr rfl)⟩
    · cases h
  · obtain ⟨x, xs, rfl, h1, h2⟩ := hv.uncons
    rw [h2.nil_inv]
    split at h
    · rename_i ws e
      split at h
      · rename_i bs e2
        cases h
        obtain ⟨p, xs, rfl, _, h3, h4⟩ := R.lst (listAt_some e) h1
        have e3 := h4.bls e2
        subst e3
        exact WC.of (cr_all hc) ⟨p, bs, rfl, SqL.of h3, P.at R (vr_bl.mpr rfl)⟩
      · cases h
    · cases h
  · cases h

/-! ### o[i] = w -/
abbrev PostH (K : PySem.W.Frag) (cl : Nat → Option Addr) (ρ : List Addr) (H : Hp) (vh' : VH) (Q : Hp → Prop) : Prop := ∀ ρ' H', Fr ρ H ρ' H' → Rel K cl ρ' vh' H' → Q H'
def WP (X : Cx) : TSet := fun o i v H Q => ∀ (pins : List (Addr × Obj)) (s : Shared) (σ : L2.St) (ov iv u : Value), Inv X pins σ H s → RelV o ov → RelV i iv → RelV v u →
    wpAny (model X.prog X.w) X.A (setItem ov iv u) (fun _ s' => ∃ H', Inv X pins σ H' s' ∧ Q H') X.xe s
theorem pWP : PSet X (WP X) := fun pins s σ H o i v ov iv u Q I r1 r2 r3 h => h pins s σ ov iv u I r1 r2 r3
theorem WP.of {t : TSet} (h : PSet X t) {o i v : V} {H : Hp} {Q : Hp → Prop} (q : t o i v H Q) : WP X o i v H Q := fun pins s σ ov iv u I r1 r2 r3 => h pins s σ H o i v ov iv u Q I r1 r2 r3 q
theorem snd_put {o i : W} {ov iv : V} {Q : Hp → Prop} (hu : X.A.units + 1 < cLine) (R : Rel X.K cl ρ vh H) (ho : ValR X.K ρ H o ov) (hi : ValR X.K ρ H i iv) (hw : ValR X.K ρ H w v) (h : putW o i w vh = .ok () vh') (P : PostH X.K cl ρ H vh' Q) : WP X ov iv v H Q := by
  cases o with
  | ref r =>
    simp only [putW] at h
    split at h
    · rename_i ws e
      obtain ⟨p, xs, rfl, hr, h1, h2⟩ := R.lst e ho
      split at h
      · rename_i j
        rw [vr_int.mp hi]
        have hl := h2.length
        have fin : ∀ n, ixN xs.length j = some n → vh' = vh.set r (.lst (ws.set n w)) → WP X (.ref p) (.int j) v H Q := fun n e1 e2 => by
          subst e2
          refine WP.of set_list ⟨p, xs, j, n, rfl, rfl, h1, e1, P _ _ (Fr.write hr) (R.write hr ⟨_, upd_same, ?_⟩)⟩
          exact ValsR.stay R (Fr.write hr) (h2.set n hw)
        split at h
        · rename_i h0
          split at h
          · rename_i h3
            cases h
            exact fin _ (by unfold ixN; rw [if_pos h0, hl, if_pos h3]) rfl
          · cases h
        · rename_i h0
          split at h
          · rename_i h3
            cases h
            exact fin _ (by unfold ixN; rw [if_neg h0, hl, if_pos h3]) rfl
          · cases h
      · cases h
    · rename_i kvs e
      obtain ⟨p, l, rfl, hr, h1, h2⟩ := R.dct e ho
      split at h
      · rename_i k hk
        split at h
        · rename_i hz
          cases h
          rw [keyW_kV hk hi]
          refine WP.of (set_dict hu) ⟨p, _, rfl, DPut.k h1 (by rw [kvr_length h2, ← line_eq]; exact hz), P _ _ (Fr.write hr) (R.write hr ⟨_, upd_same, ?_⟩)⟩
          exact KvR.stay R (Fr.write hr) (kvr_put h2 hw)
        · cases h
      · cases h
    · cases h
  | _ => cases h

/-! ### methods of a list -/
def WM (X : Cx) (id : String) : V → List V → Hp → VK → Prop := fun x xs H Q => ∀ (pins : List (Addr × Obj)) (s : Shared) (σ : L2.St) (v : Value) (us : List Value), Inv X pins σ H s → RelV x v → Vals xs us → wpAny (model X.prog X.w) X.A (call (.builtin id) (v :: us)) (EP X pins σ Q) X.xe s
theorem mWM {id : String} : MtR X id (WM X id) := fun pins s σ H x xs v us Q I rx rs h => h pins s σ v us I rx rs
theorem WM.of {id : String} {r : V → List V → Hp → VK → Prop} (h : MtR X id r) {x : V} {xs : List V} {H : Hp} {Q : VK} (q : r x xs H Q) : WM X id x xs H Q := fun pins s σ v us I rx rs => h pins s σ H x xs v us Q I rx rs q
theorem countP_U {x : V} : ∀ {xs : List V} {us : List Value}, Vals xs us → xs.all flatV = true → us.countP (eqU x) = xs.countP fun y => eqV y x
  | _, _, .nil, _ => rfl
  | _, _, .cons r t, f => by
    rw [List.all_cons, Bool.and_eq_true] at f
    rw [List.countP_cons, List.countP_cons, countP_U t f.2, eqU_of r f.1]
/-- l.count(x), flat -/
def rCntF (K : PySem.W.Frag) : V → List V → Hp → VK → Prop := fun x xs H Q => ∃ (p : Addr) (ys : List V) (y : V), x = .ref p ∧ xs = [y] ∧ SqL K H p ys ∧ flatV y = true ∧ ys.all flatV = true ∧ Q (.int (ys.countP (fun z => eqV z y) : Nat)) H
theorem mt_countF : MtR X "list.count" (rCntF X.K) := by
  intro pins s σ H x xs v us Q I rx rxs h
  obtain ⟨p, ys, y, rfl, rfl, hs, fy, fys, q⟩ := h
  cases rx
  obtain ⟨u, rfl, ru⟩ := rxs.one
  obtain ⟨its, rv, ⟨⟨cls, dd, data, sl⟩, n, ho, hc, hdn, hd⟩, hlen⟩ := I.list hs
  simp only at hc hd
  subst hc hd
  refine call_meets PySem.F.slot_list_count ⟨_, ho, rfl⟩ PySem.F.entry_list_count (PySem.F.args_list_count_2 _ _)
    (SeqAt.list_countAt p its.toArray n dd sl u (eqU y)) ⟨ho, fun z hz => mem_eqAt ru fy rv fys z (by simpa using hz), ?_⟩
  have ec : its.toArray.toList.countP (eqU y) = ys.countP (fun z => eqV z y) := countP_U rv fys
  refine ⟨.int (ys.countP (fun z => eqV z y) : Nat), H, I.tok _, ⟨s.toks, ?_⟩, q⟩
  show Value.int ((its.toArray.toList.countP (eqU y) : Nat) : Int) s.toks = Value.int ((ys.countP (fun z => eqV z y) : Nat) : Int) s.toks
  rw [ec]
theorem countF_of {K : PySem.W.Frag} (hv : ValR K ρ H w v) (h : flatW w = true) : ∀ {ws : List W} {xs : List V}, ValsR K ρ H ws xs → ws.all flatW = true → (xs.countP fun y => eqV y v) = ws.countP fun y => eqF y w
  | [], _, h, _ => by rw [h.nil_inv]; rfl
  | a :: ws, _, hs, e => by
    obtain ⟨x, xs, rfl, h1, h2⟩ := hs.uncons
    rw [List.all_cons, Bool.and_eq_true] at e
    rw [List.countP_cons, List.countP_cons, countF_of hv h h2 e.2, eqF_of h1 e.1 hv h]
theorem ValsR.dropLast {K : PySem.W.Frag} {ws : List W} {xs : List V} (h : ValsR K ρ H ws xs) : ValsR K ρ H ws.dropLast xs.dropLast := by
  rw [List.dropLast_eq_take, List.dropLast_eq_take, h.length]
  exact h.take _
theorem ValsR.get' {K : PySem.W.Frag} : ∀ {ws : List W} {vs : List V} {i : Nat} {v : V}, ValsR K ρ H ws vs → vs[i]? = some v → ∃ w, ws[i]? = some w ∧ ValR K ρ H w v := fun {ws vs i v} h e => by
  have hl := h.length
  have hi : i < ws.length := by rw [← hl]; exact (List.getElem?_eq_some_iff.mp e).1
  obtain ⟨x, hx, hr⟩ := h.get (List.getElem?_eq_getElem hi)
  rw [e] at hx; cases hx
  exact ⟨_, List.getElem?_eq_getElem hi, hr⟩
/-- the names of the methods -/
inductive LM : Str → String → Prop
  | append : LM (S [97, 112, 112, 101, 110, 100]) "list.append"
  | extend : LM (S [101, 120, 116, 101, 110, 100]) "list.extend"
  | pop : LM (S [112, 111, 112]) "list.pop"
  | index : LM (S [105, 110, 100, 101, 120]) "list.index"
  | count : LM (S [99, 111, 117, 110, 116]) "list.count"
theorem write_lst {r : Nat} {p : Addr} {ws : List W} {xs : List V} {Q : VK} {x : V} (R : Rel X.K cl ρ vh H) (hr : ρ[r]? = some p) (hx : ValR X.K ρ H w x) (P : Post X.K cl ρ H (vh.set r (.lst ws)) w Q) (h2 : ValsR X.K ρ H ws xs) : Q x (upd H p (.lst xs)) :=
  P _ _ _ (Fr.write hr) (R.write hr ⟨_, upd_same, ValsR.stay R (Fr.write hr) h2⟩) (ValR.stay R (Fr.write hr) hx)
theorem snd_lm {m : Str} {r : Nat} {as : List W} {vs : List V} (R : Rel X.K cl ρ vh H) (hv : ValR X.K ρ H (.ref r) v) (hs : ValsR X.K ρ H as vs) (h : lmW m r as vh = .ok w vh') (P : Post X.K cl ρ H vh' w Q) : ∃ id, LM m id ∧ WM X id v vs H Q := by
  unfold lmW at h
  split at h
  · rename_i ws e
    obtain ⟨p, xs, rfl, hr, h1, h2⟩ := R.lst e hv
    have hl := h2.length
    split at h
    · rename_i hm; subst hm
      refine ⟨_, .append, ?_⟩
      split at h
      · split at h
        · rename_i hz
          cases h
          obtain ⟨y, ys, rfl, h3, h4⟩ := hs.uncons
          rw [h4.nil_inv]
          exact WM.of mt_append ⟨p, xs, y, rfl, rfl, h1, by rw [hl, ← line_eq]; exact hz, write_lst R hr (vr_non.mpr rfl) P (h2.append (.cons h3 .nil))⟩
        · cases h
      · cases h
    · split at h
      · rename_i hm; subst hm
        refine ⟨_, .extend, ?_⟩
        split at h
        · split at h
          · rename_i zs e2
            split at h
            · rename_i hz
              cases h
              obtain ⟨y, ys, rfl, h3, h4⟩ := hs.uncons
              rw [h4.nil_inv]
              obtain ⟨p2, xs2, rfl, hr2, h5, h6⟩ := R.lst e2 h3
              exact WM.of mt_extend ⟨p, p2, xs, xs2, rfl, rfl, h1, h5, by rw [hl, h6.length, ← line_eq]; exact hz, write_lst R hr (vr_non.mpr rfl) P (h2.append h6)⟩
            · cases h
          · cases h
        · cases h
      · split at h
        · rename_i hm; subst hm
          refine ⟨_, .pop, ?_⟩
          split at h
          · split at h
            · cases h
            · rename_i hne
              cases h
              rw [hs.nil_inv]
              have hpos : 0 < ws.length := List.length_pos_iff.mpr hne
              have e3 : ws[ws.length - 1]? = some (ws.getLast?.getD .non) := by
                rw [List.getLast?_eq_getElem?, List.getElem?_eq_getElem (by omega)]; rfl
              obtain ⟨y, hy, hyr⟩ := h2.get e3
              exact WM.of mt_pop ⟨p, xs, y, rfl, rfl, h1, by rw [hl]; exact hy, write_lst R hr hyr P h2.dropLast⟩
          · split at h
            · cases h
              obtain ⟨y, ys, rfl, h3, h4⟩ := hs.uncons
              rw [h4.nil_inv, vr_int.mp h3]
              obtain ⟨x, xs', rfl, h5, h6⟩ := h2.uncons
              exact WM.of mt_popAt ⟨p, x :: xs', 0, 0, x, rfl, rfl, h1, by decide, by decide, by simp [seqIndex?], rfl, write_lst R hr h5 P h6⟩
            · cases h
          · cases h
        · split at h
          · rename_i hm; subst hm
            refine ⟨_, .index, ?_⟩
            split at h
            · split at h
              · rename_i hc
                split at h
                · rename_i j hj
                  cases h
                  obtain ⟨y, ys, rfl, h3, h4⟩ := hs.uncons
                  rw [h4.nil_inv]
                  obtain ⟨hjl, hj1, hj2⟩ := List.findIdx?_eq_some_iff_getElem.mp hj
                  obtain ⟨z, hz, hzr⟩ := h2.get (List.getElem?_eq_getElem hjl)
                  have fl : ∀ i (hi : i < ws.length), flatW ws[i] = true := fun i hi => List.all_eq_true.mp hc.2 _ (List.getElem_mem hi)
                  refine WM.of mt_index ⟨p, xs, y, j, z, rfl, rfl, SqL.of h1, flat_of h3 hc.1, flats_of h2 hc.2, hz, ?_, fun m z' hm hz' => ?_, P.at R (vr_int.mpr rfl)⟩
                  · rw [eqF_of hzr (fl j hjl) h3 hc.1]; exact hj1
                  · obtain ⟨w', hw', hr'⟩ := h2.get' hz'
                    have hml : m < ws.length := by omega
                    rw [List.getElem?_eq_getElem hml] at hw'
                    cases hw'
                    rw [eqF_of hr' (fl m hml) h3 hc.1]
                    have := hj2 m hm
                    simpa using this
                · cases h
              · cases h
            · cases h
          · split at h
            · rename_i hm; subst hm
              refine ⟨_, .count, ?_⟩
              split at h
              · split at h
                · rename_i hc
                  cases h
                  obtain ⟨y, ys, rfl, h3, h4⟩ := hs.uncons
                  rw [h4.nil_inv]
                  refine WM.of mt_countF ⟨p, xs, y, rfl, rfl, SqL.of h1, flat_of h3 hc.1, flats_of h2 hc.2, ?_⟩
                  rw [countF_of h3 hc.1 h2 hc.2]
                  exact P.at R (vr_int.mpr rfl)
                · cases h
              · cases h
            · cases h
  · cases h
end
end Nw

set_option Elab.async false
set_option linter.all false
set_option maxRecDepth 100000
set_option maxHeartbeats 1000000
/-! Nw, part F: what the evaluator says, the program does: expressions. -/
namespace Nw
open PySem PySem.Spec PyProof.Rows L2

abbrev WE (X : Cx) (e : Expr) : TE := fun σ H Q => ∀ (pins : List (Addr × Obj)) (s : Shared), Inv X pins σ H s → wpAny (model X.prog X.w) X.A (eval e X.env) (EP X pins σ Q) X.xe s
theorem pWE {X : Cx} {e : Expr} : PE X e (WE X e) := ⟨fun pins s σ H Q I h => h pins s I⟩
theorem WE.of {X : Cx} {e : Expr} {t : TE} (h : PE X e t) {σ : L2.St} {H : Hp} {Q : VK} (q : t σ H Q) : WE X e σ H Q := fun pins s I => h.run pins s σ H Q I q
abbrev WT (X : Cx) (e : Expr) : TT := fun σ H Q => ∀ (pins : List (Addr × Obj)) (s : Shared), Inv X pins σ H s → wpAny (model X.prog X.w) X.A (isTrue e X.env (eval e X.env)) (TP X pins σ Q) X.xe s
theorem pWT {X : Cx} {e : Expr} : PT X e (WT X e) := ⟨fun pins s σ H Q I h => h pins s I⟩
theorem WT.of {X : Cx} {e : Expr} {t : TT} (h : PT X e t) {σ : L2.St} {H : Hp} {Q : Bool → Hp → Prop} (q : t σ H Q) : WT X e σ H Q := fun pins s I => h.run pins s σ H Q I q
abbrev WB (X : Cx) (e : Expr) : TT := fun σ H Q => ∀ (whole : Sem Value) (pins : List (Addr × Obj)) (s : Shared), Inv X pins σ H s → wpAny (model X.prog X.w) X.A (isTrue e X.env whole) (TP X pins σ Q) X.xe s
theorem pWB {X : Cx} {e : Expr} : PW X e (WB X e) := ⟨fun wh pins s σ H Q I h => h wh pins s I⟩
theorem WB.of {X : Cx} {e : Expr} {t : TT} (h : PW X e t) {σ : L2.St} {H : Hp} {Q : Bool → Hp → Prop} (q : t σ H Q) : WB X e σ H Q := fun wh pins s I => h.run wh pins s σ H Q I q
abbrev WA (X : Cx) (es : List Expr) : TA := fun σ H Q => ∀ (pos : Pos) (pins : List (Addr × Obj)) (s : Shared), Inv X pins σ H s → wpAny (model X.prog X.w) X.A (spliced (backTo pos (starEach es X.env))) (AP X pins σ Q) X.xe s
theorem pWA {X : Cx} {es : List Expr} : PA X es (WA X es) := ⟨fun pos pins s σ H Q I h => h pos pins s I⟩
theorem WA.of {X : Cx} {es : List Expr} {t : TA} (h : PA X es t) {σ : L2.St} {H : Hp} {Q : List V → Hp → Prop} (q : t σ H Q) : WA X es σ H Q := fun pos pins s I => h.run pos pins s σ H Q I q
abbrev WI (X : Cx) (tg e : Expr) : TI := fun σ H R => ∀ (pins : List (Addr × Obj)) (s : Shared), Inv X pins σ H s → wpAny (model X.prog X.w) X.A (eval e X.env) (fun v s1 => wpAny (model X.prog X.w) X.A (pyIter v) (PIE X pins σ tg R) X.xe s1) X.xe s
theorem pWI {X : Cx} {tg e : Expr} : PI X tg e (WI X tg e) := ⟨fun pins s σ H R I h => h pins s I⟩
theorem WI.of {X : Cx} {tg e : Expr} {t : TI} (h : PI X tg e t) {σ : L2.St} {H : Hp} {R : It → Hp → Prop} (q : t σ H R) : WI X tg e σ H R := fun pins s I => h.run pins s σ H R I q
abbrev WG (X : Cx) (tg : Expr) : TG := fun v σ H Q => ∀ (pins : List (Addr × Obj)) (s : Shared) (u : Value), Inv X pins σ H s → RelV v u → wpAny (model X.prog X.w) X.A (assign tg X.env u) (fun _ s' => ∃ σ' H', Inv X pins σ' H' s' ∧ Q σ' H') X.xe s
theorem pWG {X : Cx} {tg : Expr} : PG X tg (WG X tg) := ⟨fun pins s σ H v u Q I r h => h pins s u I r⟩
theorem WG.of {X : Cx} {tg : Expr} {t : TG} (h : PG X tg t) {v : V} {σ : L2.St} {H : Hp} {Q : L2.St → Hp → Prop} (q : t v σ H Q) : WG X tg v σ H Q := fun pins s u I r => h.run pins s σ H v u Q I r q
abbrev WGs (X : Cx) (ts : List Expr) : TGs := fun vs σ H Q => ∀ (pins : List (Addr × Obj)) (s : Shared) (us : List Value), Inv X pins σ H s → Vals vs us → wpAny (model X.prog X.w) X.A (assignInOrder ((assignEach ts X.env).map (·.2)) us) (fun _ s' => ∃ σ' H', Inv X pins σ' H' s' ∧ Q σ' H') X.xe s
theorem pWGs {X : Cx} {ts : List Expr} : PGs X ts (WGs X ts) := ⟨fun pins s σ H vs us Q I r h => h pins s us I r⟩
theorem WGs.of {X : Cx} {ts : List Expr} {t : TGs} (h : PGs X ts t) {vs : List V} {σ : L2.St} {H : Hp} {Q : L2.St → Hp → Prop} (q : t vs σ H Q) : WGs X ts vs σ H Q := fun pins s us I r => h.run pins s σ H vs us Q I r q

theorem star_cons {e : Expr} (h : notStar e = true) (es : List Expr) (env : PySem.Env) : starEach (e :: es) env = (false, eval e env) :: starEach es env := by
  cases e <;> first | rfl | cases h
theorem star_plain : ∀ {es : List Expr} (env : PySem.Env) (pos : Pos), es.all notStar = true → (backTo pos (starEach es env)).any (·.1) = false
  | [], _, _, _ => rfl
  | e :: es, env, pos, h => by
    rw [List.all_cons, Bool.and_eq_true] at h
    rw [star_cons h.1]
    exact star_plain env pos h.2
theorem star_few : ∀ {es : List Expr} (env : PySem.Env) (pos : Pos), es.all notStar = true → (backTo pos (starEach es env)).all (fun x => !x.1) = true
  | [], _, _, _ => rfl
  | e :: es, env, pos, h => by
    rw [List.all_cons, Bool.and_eq_true] at h
    rw [star_cons h.1]
    exact star_few env pos h.2
theorem plainIx_of {b : Expr} (h : notSlice b = true) : PlainIx b := fun o i => by cases b <;> first | rfl | cases h
theorem plainT_of {e : Expr} (h : plainT e = true) (env : PySem.Env) (whole : Sem Value) : isTrue e env whole = (do let v ← whole; standAt e.pos; holding [v] (truthy v)) := by
  cases e <;> first | rfl | cases h | skip
  rename_i op a p
  cases op <;> first | rfl | cases h
theorem notSup_of {o : Expr} (h : notSup o = true) (m : Str) (env : PySem.Env) : attributeBase o m env (eval o env) = eval o env := by
  cases o <;> first | rfl | skip
  rename_i f as kws pos
  cases f <;> first | rfl | skip
  cases as <;> first | rfl | skip
  cases kws <;> first | rfl | cases h
theorem notSet_of {e : Expr} (h : notSet e = true) (env : PySem.Env) (x : Value) : foldedSetIterable e env x = pure x := by
  cases e <;> first | rfl | cases h
theorem behind_of {b : Expr} (h : notSet b = true) (op : CmpOp) : behindInMarks op b = false := by
  cases b <;> first | rfl | cases h
theorem last_of {b c : Expr} (h : notSet b = true) (h' : notSet c = true) (op op' : CmpOp) : lastMarks [op, op'] [b, c] = false := by
  show behindInMarks op' c = false
  exact behind_of h' op'

/-! ### the program around -/
def spF (P : Prog) (n f : Nat) (K : PySem.W.Frag) (cl : Nat → Option Addr) : Sp := fun vs H Q _ =>
  ∃ ρ vh ws w vh', Rel K cl ρ vh H ∧ ValsR K ρ H ws vs ∧ P.call n f ws vh = .ok w vh' ∧ Post K cl ρ H vh' w Q
def bltNames : List Str := ["len", "abs", "int", "str", "list", "tuple", "max", "min", "sum", "sorted", "repr", "all", "range", "isinstance", "bool", "dict"]
structure XOk (P : Prog) (G : GN) (n : Nat) (cl : Nat → Option Addr) (X : Cx) : Prop where
  calm : X.calm = true
  nd : X.N.Nodup
  room : Room n X.A
  xe : X.xe = fun _ _ => False
  fn : ∀ (f : Nat) (x : Str), G.fn[f]? = some x → ∃ a fd ps, X.mg x = some (.ref a) ∧ PySem.W.keepIn X.K (.ref a) = true ∧ Binds X.K fd ps [] ∧ FnOk X.prog X.w X.K X.mg X.base CX0 n a fd ps (spF P n f X.K cl)
  blt : ∀ x ∈ bltNames, X.mg x = none
  glb : ∀ x w, P.glob x = some w → ∃ u v, X.mg x = some u ∧ RelV v u ∧ ∀ ρ H, ValR X.K ρ H w v
  meth : ∀ c m, P.meth c m = none

section
variable {P : Prog} {G : GN} {n : Nat} {cl : Nat → Option Addr} {X : Cx}
theorem XOk.units (h : XOk P G n cl X) : X.A.units + 64 < cLine := h.room.units
theorem XOk.units65 (h : XOk P G n cl X) : X.A.units + 65 < cLine := by have := h.room.un; omega
theorem XOk.units1 (h : XOk P G n cl X) : X.A.units + 1 < cLine := by have := h.room.un; omega
theorem XOk.blk (h : XOk P G n cl X) (s : Shared) (H : Hp) (scope : Scope) (ce : PySem.Env) (fp : List Addr) : XOk P G n cl (X.blk s H scope ce fp) :=
  ⟨h.calm, h.nd, h.room, rfl, h.fn, h.blt, h.glb, h.meth⟩

def SndE (X : Cx) (cl : Nat → Option Addr) (m : Env → VH → R W) (e : Expr) : Prop := ∀ ρ vh env σ H Q w vh', Rel X.K cl ρ vh H → EnvR X.K X.N ρ H env σ → m env vh = .ok w vh' → Post X.K cl ρ H vh' w Q → WE X e σ H Q
abbrev PostA (K : PySem.W.Frag) (cl : Nat → Option Addr) (ρ : List Addr) (H : Hp) (vh' : VH) (ws : List W) (Q : List V → Hp → Prop) : Prop := ∀ ρ' H' vs, Fr ρ H ρ' H' → Rel K cl ρ' vh' H' → ValsR K ρ' H' ws vs → Q vs H'
def SndA (X : Cx) (cl : Nat → Option Addr) (m : Env → VH → R (List W)) (es : List Expr) : Prop := ∀ ρ vh env σ H Q ws vh', Rel X.K cl ρ vh H → EnvR X.K X.N ρ H env σ → m env vh = .ok ws vh' → PostA X.K cl ρ H vh' ws Q → WA X es σ H Q
abbrev PostT (K : PySem.W.Frag) (cl : Nat → Option Addr) (ρ : List Addr) (H : Hp) (vh' : VH) (k : Bool) (Q : Bool → Hp → Prop) : Prop := ∀ ρ' H', Fr ρ H ρ' H' → Rel K cl ρ' vh' H' → Q k H'
def SndT (X : Cx) (cl : Nat → Option Addr) (m : Env → VH → R Bool) (e : Expr) : Prop := ∀ ρ vh env σ H Q k vh', Rel X.K cl ρ vh H → EnvR X.K X.N ρ H env σ → m env vh = .ok k vh' → PostT X.K cl ρ H vh' k Q → WT X e σ H Q
theorem Post.from {K : PySem.W.Frag} {ρ ρ1 : List Addr} {H H1 : Hp} {vh' : VH} {w : W} {Q : VK} (F : Fr ρ H ρ1 H1) (p : Post K cl ρ H vh' w Q) : Post K cl ρ1 H1 vh' w Q := fun ρ' H' v f r q => p ρ' H' v (F.trans f) r q
theorem PostT.from {K : PySem.W.Frag} {ρ ρ1 : List Addr} {H H1 : Hp} {vh' : VH} {k : Bool} {Q : Bool → Hp → Prop} (F : Fr ρ H ρ1 H1) (p : PostT K cl ρ H vh' k Q) : PostT K cl ρ1 H1 vh' k Q := fun ρ' H' f r => p ρ' H' (F.trans f) r
theorem ok?_ok {α : Type} {o : Option α} {h h' : VH} {a : α} (e : ok? o h = .ok a h') : o = some a ∧ h' = h := by
  unfold ok? at e
  split at e
  · cases e; exact ⟨rfl, rfl⟩
  · cases e

theorem bnd {α β : Type} {r : R α} {f : α → VH → R β} {b : β} {h : VH} (e : r.bind f = .ok b h) : ∃ a h1, r = .ok a h1 ∧ f a h1 = .ok b h := R.bind_eq e
/-- two, one behind the other -/
theorem snd2 {ma mb : Env → VH → R W} {a b : Expr} (ha : SndE X cl ma a) (hb : SndE X cl mb b) {ρ : List Addr} {vh h1 h2 : VH} {env : Env} {σ : L2.St} {H : Hp} {x y : W} {Rr : V → V → Hp → Prop}
    (R : Rel X.K cl ρ vh H) (E : EnvR X.K X.N ρ H env σ) (e1 : ma env vh = .ok x h1) (e2 : mb env h1 = .ok y h2) (q : ∀ ρ2 H2 v u, Fr ρ H ρ2 H2 → Rel X.K cl ρ2 h2 H2 → ValR X.K ρ2 H2 x v → ValR X.K ρ2 H2 y u → Rr v u H2) :
    WE X a σ H fun v H1 => WE X b σ H1 fun u H2 => Rr v u H2 :=
  ha ρ vh env σ H _ x h1 R E e1 fun ρ1 H1 v F1 R1 V1 => hb ρ1 h1 env σ H1 _ y h2 R1 (E.stay R F1) e2 fun ρ2 H2 u F2 R2 V2 => q ρ2 H2 v u (F1.trans F2) R2 (V1.stay R1 F2) V2

theorem vis_of {sc : Scope} {x : Str} (h : visB sc x = true) : Vis sc x := by
  unfold visB at h
  split at h
  · exact .inl (by assumption)
  · exact .inr (.inl (by assumption))
  · exact .inr (.inr (by assumption))
  · cases h
theorem loc_of {sc : Scope} {x : Str} (h : locB sc x = true) : Loc sc x := by
  unfold locB at h
  split at h
  · exact .inl (by assumption)
  · exact .inr (by assumption)
  · cases h
theorem glb_of {sc : Scope} {x : Str} (h : glbB sc x = true) : sc.names.lookup x = some .globalImplicit := by
  unfold glbB at h
  split at h
  · assumption
  · cases h
theorem gl_of {x : Str} (h : glbB X.env.scope x = true) : Gl X x := glb_of h
theorem okNm_of {x : Str} (h : okNm x = true) : (x == ("__debug__" : Str)) = false ∧ (x == ("__classdict__" : Str)) = false ∧ x ≠ "__name__" := by
  unfold okNm at h
  simp only [Bool.and_eq_true, Bool.not_eq_true'] at h
  exact ⟨h.1.1, h.1.2, fun z => by subst z; exact absurd h.2 (by decide)⟩

theorem snd_var {i : Nat} {x : Str} {pos : Pos} (hN : X.N[i]? = some x) (hv : visB X.env.scope x = true) (ho : okNm x = true) : SndE X cl (fun env h => ok? (env i) h) (.Name x pos) := by
  intro ρ vh env σ H Q w vh' R E e p
  obtain ⟨e1, rfl⟩ := ok?_ok e
  obtain ⟨v, h1, h2⟩ := E.2 i w e1
  obtain ⟨o1, o2, _⟩ := okNm_of ho
  exact WE.of (pe_var hN (vis_of hv) o1 o2) ⟨v, h1, p.at R h2⟩
theorem snd_cst {w0 : W} {e : Expr} (hc : cstB w0 e = true) : SndE X cl (fun _ h => .ok w0 h) e := by
  intro ρ vh env σ H Q w vh' R E e1 p
  cases e1
  unfold cstB at hc
  split at hc
  · exact WE.of pe_non (p.at R (vr_non.mpr rfl))
  · cases (beq_iff_eq.mp hc); exact WE.of pe_bl (p.at R (vr_bl.mpr rfl))
  · cases (of_decide_eq_true hc); exact WE.of pe_int (p.at R (vr_int.mpr rfl))
  · cases (of_decide_eq_true hc); exact WE.of pe_str (p.at R (vr_str.mpr rfl))
  · cases hc
theorem snd_gl (ok : XOk P G n cl X) {x : Str} {pos : Pos} (hg : glbB X.env.scope x = true) (ho : okNm x = true) : SndE X cl (fun _ h => ok? (P.glob x) h) (.Name x pos) := by
  intro ρ vh env σ H Q w vh' R E e p
  obtain ⟨e1, rfl⟩ := ok?_ok e
  obtain ⟨u, v, h1, h2, h3⟩ := ok.glb x w e1
  exact WE.of (pe_glob (gl_of hg) h1 h2 (okNm_of ho).1) (p.at R (h3 _ _))
theorem snd_binE (ok : XOk P G n cl X) {ma mb : Env → VH → R W} {a b : Expr} {o : Bop} {o' : Operator} {pos : Pos} (ho : bopB o o' = true) (ha : SndE X cl ma a) (hb : SndE X cl mb b) :
    SndE X cl (fun env h => (ma env h).bind fun x h1 => (mb env h1).bind fun y h2 => binW o x y h2) (.BinOp a o' b pos) := by
  intro ρ vh env σ H Q w vh' R E e p
  obtain ⟨x, h1, e1, e'⟩ := bnd e; clear e; have e := e'; clear e'
  obtain ⟨y, h2, e2, e'⟩ := bnd e; clear e; have e := e'; clear e'
  exact WE.of (pe_op oWO pWE pWE) (snd2 ha hb R E e1 e2 fun ρ2 H2 v u F2 R2 V1 V2 => snd_bin ho R2 V1 V2 e (p.from F2))

theorem snd_negE {ma : Env → VH → R W} {a : Expr} {pos : Pos} (ha : SndE X cl ma a) : SndE X cl (fun env h => (ma env h).bind fun x h1 => match x with | .int i => .ok (.int (-i)) h1 | _ => .bad) (.UnaryOp .USub a pos) := by
  intro ρ vh env σ H Q w vh' R E e p
  obtain ⟨x, h1, e1, e'⟩ := bnd e; clear e; have e := e'; clear e'
  refine WE.of (pe_un un_neg pWE) (ha ρ vh env σ H _ x h1 R E e1 fun ρ1 H1 v F1 R1 V1 => ?_)
  try dsimp only at e
  split at e
  · cases e
    rw [vr_int.mp V1]
    exact ⟨_, rfl, (p.from F1).at R1 (vr_int.mpr rfl)⟩
  · cases e
theorem snd_ntE {ma : Env → VH → R W} {a : Expr} {pos : Pos} (ha : SndE X cl ma a) : SndE X cl (fun env h => (ma env h).bind fun x h1 => (ok? (truW h1 x) h1).bind fun b h2 => .ok (.bl (!b)) h2) (.UnaryOp .Not a pos) := by
  intro ρ vh env σ H Q w vh' R E e p
  obtain ⟨x, h1, e1, e'⟩ := bnd e; clear e; have e := e'; clear e'
  obtain ⟨k, h2, e2, e'⟩ := bnd e; clear e; have e := e'; clear e'
  obtain ⟨e2, rfl⟩ := ok?_ok e2
  cases e
  exact WE.of (pe_notT pWE) (ha ρ vh env σ H _ x _ R E e1 fun ρ1 H1 v F1 R1 V1 => ⟨k, tru_of R1 e2 V1, (p.from F1).at R1 (vr_bl.mpr rfl)⟩)
theorem snd_cmpE (ok : XOk P G n cl X) {ma mb : Env → VH → R W} {a b : Expr} {o : Cop} {o' : CmpOp} {pos : Pos} (ho : copB o o' = true) (hb' : notSet b = true) (ha : SndE X cl ma a) (hb : SndE X cl mb b) :
    SndE X cl (fun env h => (ma env h).bind fun x h1 => (mb env h1).bind fun y h2 => (ok? (cmpW o x y h2) h2).bind fun k h3 => .ok (.bl k) h3) (.Compare a [o'] [b] pos) := by
  intro ρ vh env σ H Q w vh' R E e p
  obtain ⟨x, h1, e1, e'⟩ := bnd e; clear e; have e := e'; clear e'
  obtain ⟨y, h2, e2, e'⟩ := bnd e; clear e; have e := e'; clear e'
  obtain ⟨k, h3, e3, e'⟩ := bnd e; clear e; have e := e'; clear e'
  obtain ⟨e3, rfl⟩ := ok?_ok e3
  cases e
  exact WE.of (pe_cmpR oWO pWE pWE (behind_of hb' _)) (snd2 ha hb R E e1 e2 fun ρ2 H2 v u F2 R2 V1 V2 => snd_cmp ho ok.units65 R2 V1 V2 e3 ((p.from F2).at R2 (vr_bl.mpr rfl)))
theorem snd_cmpT (ok : XOk P G n cl X) {ma mb : Env → VH → R W} {a b : Expr} {o : Cop} {o' : CmpOp} {pos : Pos} (ho : copB o o' = true) (hb' : notSet b = true) (ha : SndE X cl ma a) (hb : SndE X cl mb b) :
    SndT X cl (fun env h => (ma env h).bind fun x h1 => (mb env h1).bind fun y h2 => ok? (cmpW o x y h2) h2) (.Compare a [o'] [b] pos) := by
  intro ρ vh env σ H Q k vh' R E e p
  obtain ⟨x, h1, e1, e'⟩ := bnd e; clear e; have e := e'; clear e'
  obtain ⟨y, h2, e2, e3⟩ := bnd e
  obtain ⟨e3, rfl⟩ := ok?_ok e3
  exact WT.of (pt_cmpR oWO pWE pWE (behind_of hb' _)) (snd2 ha hb R E e1 e2 fun ρ2 H2 v u F2 R2 V1 V2 => snd_cmp ho ok.units65 R2 V1 V2 e3 ⟨_, rfl, p _ _ F2 R2⟩)
theorem snd_chnE (ok : XOk P G n cl X) {ma mb mc : Env → VH → R W} {a b c : Expr} {o q : Cop} {o' q' : CmpOp} {pos : Pos} (ho : copB o o' = true) (hq : copB q q' = true) (hb' : notSet b = true) (hc' : notSet c = true)
    (ha : SndE X cl ma a) (hb : SndE X cl mb b) (hc : SndE X cl mc c) :
    SndE X cl (fun env h => (ma env h).bind fun x h1 => (mb env h1).bind fun y h2 => (ok? (cmpW o x y h2) h2).bind fun k h3 =>
      if k then (mc env h3).bind fun z h4 => (ok? (cmpW q y z h4) h4).bind fun k h5 => .ok (.bl k) h5 else .ok (.bl false) h3) (.Compare a [o', q'] [b, c] pos) := by
  intro ρ vh env σ H Q w vh' R E e p
  obtain ⟨x, h1, e1, e'⟩ := bnd e; clear e; have e := e'; clear e'
  obtain ⟨y, h2, e2, e'⟩ := bnd e; clear e; have e := e'; clear e'
  obtain ⟨k, h3, e3, e'⟩ := bnd e; clear e; have e := e'; clear e'
  obtain ⟨e3, rfl⟩ := ok?_ok e3
  refine WE.of (pe_chain oWO oWO pWE pWE pWE (last_of hb' hc' _ _)) (snd2 ha hb R E e1 e2 fun ρ2 H2 v u F2 R2 V1 V2 => snd_cmp ho ok.units65 R2 V1 V2 e3 ⟨k, rfl, ?_⟩)
  cases k with
  | false =>
    simp only [Bool.false_eq_true, if_false] at e ⊢
    cases e
    exact (p.from F2).at R2 (vr_bl.mpr rfl)
  | true =>
    simp only [if_true] at e ⊢
    obtain ⟨z, h4, e4, e'⟩ := bnd e; clear e; have e := e'; clear e'
    obtain ⟨k2, h5, e5, e'⟩ := bnd e; clear e; have e := e'; clear e'
    obtain ⟨e5, rfl⟩ := ok?_ok e5
    cases e
    exact hc ρ2 _ env σ H2 _ z _ R2 (E.stay R F2) e4 fun ρ3 H3 z' F3 R3 V3 => snd_cmp hq ok.units65 R3 (V2.stay R2 F3) V3 e5 ((p.from (F2.trans F3)).at R3 (vr_bl.mpr rfl))
theorem snd_chnT (ok : XOk P G n cl X) {ma mb mc : Env → VH → R W} {a b c : Expr} {o q : Cop} {o' q' : CmpOp} {pos : Pos} (ho : copB o o' = true) (hq : copB q q' = true) (hb' : notSet b = true) (hc' : notSet c = true)
    (ha : SndE X cl ma a) (hb : SndE X cl mb b) (hc : SndE X cl mc c) :
    SndT X cl (fun env h => ((ma env h).bind fun x h1 => (mb env h1).bind fun y h2 => (ok? (cmpW o x y h2) h2).bind fun k h3 =>
      if k then (mc env h3).bind fun z h4 => (ok? (cmpW q y z h4) h4).bind fun k h5 => .ok (.bl k) h5 else .ok (.bl false) h3).bind fun x h1 => ok? (truW h1 x) h1) (.Compare a [o', q'] [b, c] pos) := by
  intro ρ vh env σ H Q w vh' R E e p
  obtain ⟨wv, h0, e, ew⟩ := bnd e
  obtain ⟨x, h1, e1, e'⟩ := bnd e; clear e; have e := e'; clear e'
  obtain ⟨y, h2, e2, e'⟩ := bnd e; clear e; have e := e'; clear e'
  obtain ⟨k, h3, e3, e'⟩ := bnd e; clear e; have e := e'; clear e'
  obtain ⟨e3, rfl⟩ := ok?_ok e3
  obtain ⟨ew, rfl⟩ := ok?_ok ew
  refine WT.of (pt_chain oWO oWO pWE pWE pWE (last_of hb' hc' _ _)) (snd2 ha hb R E e1 e2 fun ρ2 H2 v u F2 R2 V1 V2 => snd_cmp ho ok.units65 R2 V1 V2 e3 ⟨k, rfl, ?_⟩)
  cases k with
  | false =>
    simp only [Bool.false_eq_true, if_false] at e ⊢
    cases e; cases ew
    exact ⟨_, rfl, p _ _ F2 R2⟩
  | true =>
    simp only [if_true] at e ⊢
    obtain ⟨z, h4, e4, e'⟩ := bnd e; clear e; have e := e'; clear e'
    obtain ⟨k2, h5, e5, e'⟩ := bnd e; clear e; have e := e'; clear e'
    obtain ⟨e5, rfl⟩ := ok?_ok e5
    cases e; cases ew
    exact hc ρ2 _ env σ H2 _ z _ R2 (E.stay R F2) e4 fun ρ3 H3 z' F3 R3 V3 => snd_cmp hq ok.units65 R3 (V2.stay R2 F3) V3 e5 ⟨_, rfl, p _ _ (F2.trans F3) R3⟩
theorem snd_iteE {mt : Env → VH → R Bool} {ma mb : Env → VH → R W} {c a b : Expr} {pos : Pos} (hc : SndT X cl mt c) (ha : SndE X cl ma a) (hb : SndE X cl mb b) :
    SndE X cl (fun env h => (mt env h).bind fun k h2 => if k then ma env h2 else mb env h2) (.IfExp c a b pos) := by
  intro ρ vh env σ H Q w vh' R E e p
  obtain ⟨k, h1, e1, e'⟩ := bnd e; clear e; have e := e'; clear e'
  refine WE.of (pe_ifExp pWT pWE pWE) (hc ρ vh env σ H _ k h1 R E e1 fun ρ1 H1 F1 R1 => ?_)
  cases k with
  | false => exact hb ρ1 h1 env σ H1 _ w vh' R1 (E.stay R F1) e (p.from F1)
  | true => exact ha ρ1 h1 env σ H1 _ w vh' R1 (E.stay R F1) e (p.from F1)
theorem pt_ite {c a b : Expr} {pos : Pos} {tc ta tb : TT} (hc : PT X c tc) (ha : PT X a ta) (hb : PT X b tb) : PT X (.IfExp c a b pos) (fun σ H Q => tc σ H fun k H1 => if k = true then ta σ H1 Q else tb σ H1 Q) := by
  refine ⟨fun pins s σ H Q I h => ?_⟩
  show wpAny _ _ (do if ← isTrue c X.env (eval c X.env) then isTrue a X.env (eval a X.env) else isTrue b X.env (eval b X.env)) _ _ _
  refine wpAny_bind (thn (hc.run pins s σ H _ I h) fun k s1 ⟨H1, I1, q⟩ => ?_)
  cases k with
  | true => exact ha.run pins s1 σ H1 Q I1 q
  | false => exact hb.run pins s1 σ H1 Q I1 q
theorem snd_iteT {mt ma mb : Env → VH → R Bool} {c a b : Expr} {pos : Pos} (hc : SndT X cl mt c) (ha : SndT X cl ma a) (hb : SndT X cl mb b) :
    SndT X cl (fun env h => (mt env h).bind fun k h2 => if k then ma env h2 else mb env h2) (.IfExp c a b pos) := by
  intro ρ vh env σ H Q w vh' R E e p
  obtain ⟨k, h1, e1, e'⟩ := bnd e; clear e; have e := e'; clear e'
  refine WT.of (pt_ite pWT pWT pWT) (hc ρ vh env σ H _ k h1 R E e1 fun ρ1 H1 F1 R1 => ?_)
  cases k with
  | false => exact hb ρ1 h1 env σ H1 _ w vh' R1 (E.stay R F1) e (p.from F1)
  | true => exact ha ρ1 h1 env σ H1 _ w vh' R1 (E.stay R F1) e (p.from F1)
theorem snd_valT {ma : Env → VH → R W} {a : Expr} (hp : plainT a = true) (ha : SndE X cl ma a) : SndT X cl (fun env h => (ma env h).bind fun x h1 => ok? (truW h1 x) h1) a := by
  intro ρ vh env σ H Q k vh' R E e p
  obtain ⟨x, h1, e1, e'⟩ := bnd e; clear e; have e := e'; clear e'
  obtain ⟨e, rfl⟩ := ok?_ok e
  exact WT.of (pt_truth pWE (plainT_of hp _)) (ha ρ vh env σ H _ x _ R E e1 fun ρ1 H1 v F1 R1 V1 => ⟨k, tru_of R1 e V1, p _ _ F1 R1⟩)
theorem snd_ntT {mt : Env → VH → R Bool} {a : Expr} {pos : Pos} (ha : SndT X cl mt a) : SndT X cl (fun env h => (mt env h).bind fun b h2 => .ok (!b) h2) (.UnaryOp .Not a pos) := by
  intro ρ vh env σ H Q k vh' R E e p
  obtain ⟨b, h1, e1, e'⟩ := bnd e; clear e; have e := e'; clear e'
  cases e
  exact WT.of (pt_not pWT) (ha ρ vh env σ H _ b _ R E e1 fun ρ1 H1 F1 R1 => p _ _ F1 R1)

/-! ### lists -/
theorem snd_nilA : SndA X cl (fun _ h => .ok [] h) [] := by
  intro ρ vh env σ H Q ws vh' R E e p
  cases e
  exact WA.of pa_nil (p ρ H [] Fr.rfl' R .nil)
theorem snd_consA {me : Env → VH → R W} {ms : Env → VH → R (List W)} {e : Expr} {es : List Expr} (hs : notStar e = true) (he : SndE X cl me e) (hes : SndA X cl ms es) :
    SndA X cl (fun env h => (me env h).bind fun x h1 => (ms env h1).bind fun xs h2 => .ok (x :: xs) h2) (e :: es) := by
  intro ρ vh env σ H Q ws vh' R E e' p
  obtain ⟨x, h1, e1, e'⟩ := bnd e'
  obtain ⟨xs, h2, e2, e'⟩ := bnd e'
  cases e'
  refine WA.of (pa_cons pWE pWA (star_cons hs _ _)) (he ρ vh env σ H _ x h1 R E e1 fun ρ1 H1 v F1 R1 V1 => hes ρ1 h1 env σ H1 _ xs _ R1 (E.stay R F1) e2 fun ρ2 H2 vs F2 R2 V2 => p _ _ _ (F1.trans F2) R2 (.cons (V1.stay R1 F2) V2))
theorem snd_tupE {ms : Env → VH → R (List W)} {es : List Expr} {k : Nat} {pos : Pos} (hs : SndA X cl ms es) : SndE X cl (fun env h => (ms env h).bind fun ws h1 => if ws.length ≤ line then .ok (.tup ws) h1 else .bad) (.Tuple es k pos) := by
  intro ρ vh env σ H Q w vh' R E e p
  obtain ⟨ws, h1, e1, e'⟩ := bnd e; clear e; have e := e'; clear e'
  split at e
  · rename_i hl
    cases e
    exact WE.of (pe_tup pWA) (hs ρ vh env σ H _ ws _ R E e1 fun ρ1 H1 vs F1 R1 V1 => ⟨by rw [V1.length, ← line_eq]; exact hl, Post.tup R1 (p.from F1) V1⟩)
  · cases e
theorem snd_lstE {ms : Env → VH → R (List W)} {es : List Expr} {pos : Pos} (hs : SndA X cl ms es) : SndE X cl (fun env h => (ms env h).bind fun ws h1 => newL ws h1) (.List es pos) := by
  intro ρ vh env σ H Q w vh' R E e p
  obtain ⟨ws, h1, e1, e'⟩ := bnd e; clear e; have e := e'; clear e'
  unfold newL at e
  split at e
  · rename_i hl
    cases e
    exact WE.of (pe_lst pWA) (hs ρ vh env σ H _ ws _ R E e1 fun ρ1 H1 vs F1 R1 V1 => ⟨by rw [V1.length, ← line_eq]; exact hl, Post.lst R1 (p.from F1) V1⟩)
  · cases e
theorem snd_ixE (ok : XOk P G n cl X) {ma mb : Env → VH → R W} {a b : Expr} {pos : Pos} (hb' : notSlice b = true) (ha : SndE X cl ma a) (hb : SndE X cl mb b) :
    SndE X cl (fun env h => (ma env h).bind fun x h1 => (mb env h1).bind fun y h2 => ok? (ixW h2 x y) h2) (.Subscript a b pos) := by
  intro ρ vh env σ H Q w vh' R E e p
  obtain ⟨x, h1, e1, e'⟩ := bnd e; clear e; have e := e'; clear e'
  obtain ⟨y, h2, e2, e'⟩ := bnd e; clear e; have e := e'; clear e'
  obtain ⟨e, rfl⟩ := ok?_ok e
  have seq : (∀ ρ2 H2 v u, Fr ρ H ρ2 H2 → Rel X.K cl ρ2 vh' H2 → ValR X.K ρ2 H2 x v → ValR X.K ρ2 H2 y u → rIx X.K v u H2 Q) → WE X (.Subscript a b pos) σ H Q := fun q =>
    WE.of (pe_ix ix_seq pWE pWE (plainIx_of hb')) (snd2 ha hb R E e1 e2 q)
  have dic : (∀ ρ2 H2 v u, Fr ρ H ρ2 H2 → Rel X.K cl ρ2 vh' H2 → ValR X.K ρ2 H2 x v → ValR X.K ρ2 H2 y u → ∃ a v', v = .ref a ∧ DGet H2 a u (some v') ∧ Q v' H2) → WE X (.Subscript a b pos) σ H Q := fun q =>
    WE.of (pe_dget ok.units1 pWE pWE (plainIx_of hb')) (snd2 ha hb R E e1 e2 q)
  cases x with
  | tup ws =>
    cases y <;> simp only [ixW] at e <;> first | cases e | skip
    refine seq fun ρ2 H2 v u F2 R2 V1 V2 => ?_
    obtain ⟨q, xs, rfl, h3, h4⟩ := vr_tup.mp V1
    rw [vr_int.mp V2]
    exact snd_ixS R2 (.inr h3) h4 e (p.from F2)
  | rol ws =>
    cases y <;> simp only [ixW] at e <;> first | cases e | skip
    refine seq fun ρ2 H2 v u F2 R2 V1 V2 => ?_
    obtain ⟨q, xs, rfl, h3, h4⟩ := vr_rol.mp V1
    rw [vr_int.mp V2]
    exact snd_ixS R2 (.inl h3.sql) h4 e (p.from F2)
  | ref r =>
    simp only [ixW] at e
    split at e
    · rename_i kvs hk
      refine dic fun ρ2 H2 v u F2 R2 V1 V2 => ?_
      obtain ⟨q, l, rfl, _, h3, h4⟩ := R2.dct hk V1
      split at e
      · rename_i k hk2
        obtain ⟨z, hz, hzr⟩ := kvr_some h4 e
        refine ⟨q, z, rfl, ?_, (p.from F2).at R2 hzr⟩
        rw [keyW_kV hk2 V2, ← hz]
        exact DGet.k h3
      · cases e
    · rename_i ws hk
      cases y <;> simp only at e <;> first | cases e | skip
      refine seq fun ρ2 H2 v u F2 R2 V1 V2 => ?_
      obtain ⟨q, xs, rfl, _, h3, h4⟩ := R2.lst hk V1
      rw [vr_int.mp V2]
      exact snd_ixS R2 (.inl (SqL.of h3)) h4 e (p.from F2)
    · cases e
  | _ => simp [ixW] at e

/-! ### slices -/
abbrev WOp (X : Cx) (e : Option Expr) : TO := fun σ H Q => ∀ t, PO X e t → ∀ (_ : True), t σ H Q
def SndO (X : Cx) (cl : Nat → Option Addr) (m : Env → VH → R (Option Int)) (e : Option Expr) : Prop := ∃ t, PO X e t ∧ ∀ ρ vh env σ H Q i vh', Rel X.K cl ρ vh H → EnvR X.K X.N ρ H env σ → m env vh = .ok i vh' →
  (∀ ρ' H', Fr ρ H ρ' H' → Rel X.K cl ρ' vh' H' → Q i H') → t σ H Q
theorem snd_O0 : SndO X cl (fun _ h => .ok none h) none := ⟨_, po_none, fun ρ vh env σ H Q i vh' R E e p => by cases e; exact p _ _ Fr.rfl' R⟩
theorem snd_O1 {ma : Env → VH → R W} {a : Expr} (ha : SndE X cl ma a) : SndO X cl (fun env h => (ma env h).bind fun x h1 => match x with | .int i => .ok (some i) h1 | _ => .bad) (some a) := by
  refine ⟨_, po_some pWE, fun ρ vh env σ H Q i vh' R E e p => ?_⟩
  obtain ⟨x, h1, e1, e'⟩ := bnd e; clear e; have e := e'; clear e'
  refine ha ρ vh env σ H _ x h1 R E e1 fun ρ1 H1 v F1 R1 V1 => ?_
  try dsimp only at e
  split at e
  · cases e
    exact ⟨_, vr_int.mp V1, p _ _ F1 R1⟩
  · cases e
theorem snd_slE {ma : Env → VH → R W} {ml mh : Env → VH → R (Option Int)} {a : Expr} {lo hi : Option Expr} {pos p2 : Pos} (ha : SndE X cl ma a) (hl : SndO X cl ml lo) (hh : SndO X cl mh hi) :
    SndE X cl (fun env h => (ma env h).bind fun x h1 => (ml env h1).bind fun l h2 => (mh env h2).bind fun u h3 => slW x l u h3) (.Subscript a (.Slice lo hi none p2) pos) := by
  intro ρ vh env σ H Q w vh' R E e p
  obtain ⟨x, h1, e1, e'⟩ := bnd e; clear e; have e := e'; clear e'
  obtain ⟨l, h2, e2, e'⟩ := bnd e; clear e; have e := e'; clear e'
  obtain ⟨u, h3, e3, e'⟩ := bnd e; clear e; have e := e'; clear e'
  obtain ⟨tl, pl, ql⟩ := hl
  obtain ⟨th, ph, qh⟩ := hh
  refine WE.of (pe_slice sl_n pWE pl ph) (ha ρ vh env σ H _ x h1 R E e1 fun ρ1 H1 v F1 R1 V1 => ql ρ1 h1 env σ H1 _ l h2 R1 (E.stay R F1) e2 fun ρ2 H2 F2 R2 => ?_)
  refine qh ρ2 h2 env σ H2 _ u h3 R2 ((E.stay R F1).stay R1 F2) e3 fun ρ3 H3 F3 R3 => ?_
  exact snd_sl R3 ((V1.stay R1 F2).stay R2 F3) e (p.from ((F1.trans F2).trans F3))

/-! ### calls -/
theorem snd_callE (ok : XOk P G n cl X) {ms : Env → VH → R (List W)} {f : Nat} {x : Str} {np pos : Pos} {e0 : Expr} {es : List Expr} (hf : G.fn[f]? = some x) (hg : glbB X.env.scope x = true) (ho : okNm x = true) (h0 : notStar e0 = true) (hst : es.all notStar = true) (hs : SndA X cl ms (e0 :: es)) :
    SndE X cl (fun env h => (ms env h).bind fun ws h1 => P.call n f ws h1) (.Call (.Name x np) (e0 :: es) [] pos) := by
  intro ρ vh env σ H Q w vh' R E e p
  obtain ⟨ws, h1, e1, e⟩ := bnd e
  obtain ⟨a, fd, ps, hm, hk, hb, F⟩ := ok.fn f x hf
  exact WE.of (pe_call F ok.room (gl_of hg) hm hk hb .nil pass0 pWA (okNm_of ho).1 (star_cons h0 _ _) (star_plain _ _ hst))
    (hs ρ vh env σ H (fun vs H1 => spF P n f X.K cl (vs ++ []) H1 Q E0) ws h1 R E e1 fun ρ1 H1 vs F1 R1 V1 => ⟨ρ1, h1, ws, w, vh', R1, by rw [List.append_nil]; exact V1, e, p.from F1⟩)
theorem snd_call0E (ok : XOk P G n cl X) {f : Nat} {x : Str} {np pos : Pos} (hf : G.fn[f]? = some x) (hg : glbB X.env.scope x = true) (ho : okNm x = true) : SndE X cl (fun _ h => P.call n f [] h) (.Call (.Name x np) [] [] pos) := by
  intro ρ vh env σ H Q w vh' R E e p
  obtain ⟨a, fd, ps, hm, hk, hb, F⟩ := ok.fn f x hf
  exact WE.of (pe_call0 F ok.room (gl_of hg) hm hk hb .nil pass0 (okNm_of ho).1) ⟨ρ, vh, [], w, vh', R, .nil, e, p⟩
theorem bi_mem (f : Bi) : biNm f ∈ bltNames := by cases f <;> decide +kernel
theorem bi_nm (f : Bi) : biNm f ≠ "__name__" ∧ (biNm f == ("__debug__" : Str)) = false := by cases f <;> decide +kernel
theorem bi_boot (f : Bi) : bootBuiltins (biNm f) = some (biVal f) := by cases f <;> decide +kernel
theorem biVal_cases (f : Bi) : (∃ id, biVal f = .builtin id) ∨ ∃ T, biVal f = .type T := by cases f <;> first | exact .inl ⟨_, rfl⟩ | exact .inr ⟨_, rfl⟩
theorem snd_biE (ok : XOk P G n cl X) {ms : Env → VH → R (List W)} {f : Bi} {x : Str} {np pos : Pos} {e0 : Expr} {es : List Expr} (hx : biNm f = x) (hg : glbB X.env.scope x = true) (h0 : notStar e0 = true) (hst : es.all notStar = true) (hs : SndA X cl ms (e0 :: es)) :
    SndE X cl (fun env h => (ms env h).bind fun ws h1 => biW f ws h1) (.Call (.Name x np) (e0 :: es) [] pos) := by
  subst hx
  intro ρ vh env σ H Q w vh' R E e p
  obtain ⟨ws, h1, e1, e⟩ := bnd e
  have hm : X.mg (biNm f) = none := ok.blt _ (bi_mem f)
  obtain ⟨n1, n2⟩ := bi_nm f
  have q : WA X (e0 :: es) σ H (fun vs H1 => WC X (biVal f) vs H1 Q) := hs ρ vh env σ H _ ws h1 R E e1 fun ρ1 H1 vs F1 R1 V1 => snd_bi ok.calm R1 V1 e (p.from F1)
  rcases biVal_cases f with ⟨id, hv⟩ | ⟨T, hv⟩
  · rw [hv] at q
    exact WE.of (pe_callB cWC (gl_of hg) hm (by rw [bi_boot, hv]) pWA n1 n2 (star_cons h0 _ _) (star_plain _ _ hst)) q
  · rw [hv] at q
    exact WE.of (pe_callTy cWC (gl_of hg) hm (by rw [bi_boot, hv]) pWA n1 n2 (star_cons h0 _ _) (star_plain _ _ hst)) q
theorem ty_mem (t : Ty) : tyNm t ∈ bltNames := by cases t <;> decide +kernel
theorem ty_nm (t : Ty) : tyNm t ≠ "__name__" ∧ (tyNm t == ("__debug__" : Str)) = false := by cases t <;> decide +kernel
theorem ty_boot (t : Ty) : bootBuiltins (tyNm t) = some (.type (tyStr t)) := by cases t <;> decide +kernel
theorem snd_isiE (ok : XOk P G n cl X) {ma : Env → VH → R W} {t : Ty} {x y : Str} {np yp pos : Pos} {a : Expr} (hx : x = ("isinstance" : Str)) (hg : glbB X.env.scope x = true) (hy : y = tyNm t) (hgy : glbB X.env.scope y = true) (h0 : notStar a = true) (ha : SndE X cl ma a) :
    SndE X cl (fun env h => (ma env h).bind fun x h1 => (ok? (isiW h1 t x) h1).bind fun k h2 => .ok (.bl k) h2) (.Call (.Name x np) [a, .Name y yp] [] pos) := by
  subst hx hy
  intro ρ vh env σ H Q w vh' R E e p
  obtain ⟨x, h1, e1, e'⟩ := bnd e; clear e
  obtain ⟨k, h2, e2, e⟩ := bnd e'; clear e'
  cases e
  obtain ⟨e2, rfl⟩ := ok?_ok e2
  have hm : X.mg "isinstance" = none := ok.blt _ (by decide +kernel)
  have hmy : X.mg (tyNm t) = none := ok.blt _ (ty_mem t)
  obtain ⟨n1, n2⟩ := ty_nm t
  have py : PE X (.Name (tyNm t) yp) (tC (.ty (tyStr t))) := pe_bltn (gl_of hgy) hmy (ty_boot t) rfl n1 n2
  refine WE.of (pe_callB cWC (gl_of hg) hm boot_isinstance (pa_cons pWE (pa_cons py pa_nil) (star_cons h0 _ _)) (by decide +kernel) (by decide +kernel) (star_cons h0 _ _) rfl) ?_
  exact ha ρ vh env σ H _ x _ R E e1 fun ρ1 H1 v F1 R1 V1 => snd_isi R1 V1 e2 ((p.from F1).at R1 (vr_bl.mpr rfl))

/-! ### methods of lists -/
theorem lm_facts {m : Str} {id : String} (h : LM m id) : Slot "list" m id ∧ typeOf (.builtin id) = pure (.type "method_descriptor") := by
  cases h with
  | append => exact ⟨PySem.F.slot_list_append, PySem.F.type_list_append⟩
  | extend => exact ⟨PySem.F.slot_list_extend, PySem.F.type_list_extend⟩
  | pop => exact ⟨PySem.F.slot_list_pop, PySem.F.type_list_pop⟩
  | index => exact ⟨PySem.F.slot_list_index, PySem.F.type_list_index⟩
  | count => exact ⟨PySem.F.slot_list_count, PySem.F.type_list_count⟩
/-- the method's name tells its rule -/
def lmId (m : Str) : Option String :=
  if m = S [97, 112, 112, 101, 110, 100] then some "list.append" else if m = S [101, 120, 116, 101, 110, 100] then some "list.extend" else if m = S [112, 111, 112] then some "list.pop"
  else if m = S [105, 110, 100, 101, 120] then some "list.index" else if m = S [99, 111, 117, 110, 116] then some "list.count" else none
theorem lm_id {m : Str} {id : String} (h : LM m id) : lmId m = some id := by cases h <;> decide +kernel
theorem lmW_id {m : Str} {r : Nat} {as : List W} {h h' : VH} {w : W} (e : lmW m r as h = .ok w h') : ∃ id, lmId m = some id ∧ LM m id := by
  unfold lmW at e
  split at e
  · split at e
    · rename_i hm; subst hm; exact ⟨_, by decide +kernel, .append⟩
    · split at e
      · rename_i hm; subst hm; exact ⟨_, by decide +kernel, .extend⟩
      · split at e
        · rename_i hm; subst hm; exact ⟨_, by decide +kernel, .pop⟩
        · split at e
          · rename_i hm; subst hm; exact ⟨_, by decide +kernel, .index⟩
          · split at e
            · rename_i hm; subst hm; exact ⟨_, by decide +kernel, .count⟩
            · cases e
  · cases e
abbrev mthK (C : Cfg) (m : Str) (x : W) (ws : List W) (h1 h2 : VH) : R W := match x with
      | .ref r => match h1[r]? with
        | some (.lst _) => lmW m r ws h2
        | some (.ins c _) => match C.meth c m with | some f => C.call f (x :: ws) h2 | none => .bad
        | _ => .bad
      | _ => .bad
theorem mthK_lst (ok : XOk P G n cl X) {m : Str} {x w : W} {ws : List W} {h1 h2 h' : VH} (e : mthK (P.cfg n) m x ws h1 h2 = .ok w h') : ∃ r zs, x = .ref r ∧ h1[r]? = some (.lst zs) ∧ lmW m r ws h2 = .ok w h' := by
  unfold mthK at e
  split at e
  · split at e
    · exact ⟨_, _, rfl, by assumption, e⟩
    · rw [show (P.cfg n).meth = P.meth from rfl, ok.meth] at e
      cases e
    · cases e
  · cases e
theorem snd_mthE (ok : XOk P G n cl X) {mo : Env → VH → R W} {ms : Env → VH → R (List W)} {m : Str} {o e0 : Expr} {es : List Expr} {ap cp : Pos} (hsup : notSup o = true) (hline : ap.endLine = cp.line) (h0 : notStar e0 = true) (hst : es.all notStar = true) (hfew : (e0 :: es).length < 30)
    (ho : SndE X cl mo o) (hs : SndA X cl ms (e0 :: es)) :
    SndE X cl (fun env h => (mo env h).bind fun x h1 => (ms env h1).bind fun ws h2 => mthK (P.cfg n) m x ws h1 h2) (.Call (.Attribute o m ap) (e0 :: es) [] cp) := by
  intro ρ vh env σ H Q w vh' R E e p
  obtain ⟨x, h1, e1, e'⟩ := bnd e; clear e
  obtain ⟨ws, h2, e2, e⟩ := bnd e'; clear e'
  obtain ⟨r, zs, rfl, hz, e⟩ := mthK_lst ok e
  obtain ⟨id, _, hlm⟩ := lmW_id e
  obtain ⟨sl, ty⟩ := lm_facts hlm
  have hst' : (e0 :: es).all notStar = true := by rw [List.all_cons, h0, hst]; rfl
  refine WE.of (pe_bm PySem.F.plainAttrs_list sl ty mWM pWE pWA (notSup_of hsup _ _) ?_ (beq_iff_eq.mpr hline) (star_cons h0 _ _) (star_plain _ _ hst)) ?_
  · rw [star_few _ _ hst']
    simp only [keywordEach, backToKw, List.map_nil, List.all_nil, Bool.true_and, decide_eq_true_eq, List.length_nil, List.isEmpty_nil, if_true]
    omega
  · refine ho ρ vh env σ H _ _ h1 R E e1 fun ρ1 H1 v F1 R1 V1 => ?_
    obtain ⟨q, xs, rfl, hr, hq, _⟩ := R1.lst hz V1
    refine ⟨.inl ⟨rfl, xs, SqL.of hq⟩, hs ρ1 h1 env σ H1 _ ws h2 R1 (E.stay R F1) e2 fun ρ2 H2 vs F2 R2 V2 => ?_⟩
    obtain ⟨id', hlm', hw⟩ := snd_lm R2 (V1.stay R1 F2) V2 e (p.from (F1.trans F2))
    have : id' = id := Option.some.inj ((lm_id hlm').symm.trans (lm_id hlm))
    subst this
    exact hw
theorem snd_mth0E (ok : XOk P G n cl X) {mo : Env → VH → R W} {m : Str} {o : Expr} {ap cp : Pos} (hsup : notSup o = true) (hline : ap.endLine = cp.line) (ho : SndE X cl mo o) :
    SndE X cl (fun env h => (mo env h).bind fun x h1 => mthK (P.cfg n) m x [] h1 h1) (.Call (.Attribute o m ap) [] [] cp) := by
  intro ρ vh env σ H Q w vh' R E e p
  obtain ⟨x, h1, e1, e'⟩ := bnd e; clear e
  obtain ⟨r, zs, rfl, hz, e⟩ := mthK_lst ok e'
  obtain ⟨id, _, hlm⟩ := lmW_id e
  obtain ⟨sl, ty⟩ := lm_facts hlm
  refine WE.of (pe_bm0 PySem.F.plainAttrs_list sl ty mWM pWE (notSup_of hsup _ _) (beq_iff_eq.mpr hline)) ?_
  refine ho ρ vh env σ H _ _ h1 R E e1 fun ρ1 H1 v F1 R1 V1 => ?_
  obtain ⟨q, xs, rfl, hr, hq, _⟩ := R1.lst hz V1
  refine ⟨.inl ⟨rfl, xs, SqL.of hq⟩, ?_⟩
  obtain ⟨id', hlm', hw⟩ := snd_lm R1 V1 (ValsR.nil) e (p.from F1)
  have : id' = id := Option.some.inj ((lm_id hlm').symm.trans (lm_id hlm))
  subst this
  exact hw

/-! ### a display of a dict -/
theorem pps_all {pos : Pos} : ∀ {ks : List Key} {ks' : List (Option Expr)} {es : List Expr}, keysB ks ks' = true → ks'.length = es.length → ∃ trs : List (TE × TE), PPs X pos ks' es trs ∧ trs = (ks.zip es).map (fun p => (tC (kV p.1), WE X p.2))
  | [], [], [], _, _ => ⟨[], pps_nil, rfl⟩
  | k :: ks, k' :: ks', e :: es, h, hl => by
    simp only [keysB, Bool.and_eq_true] at h
    obtain ⟨trs, ht, he⟩ := pps_all (ks := ks) (ks' := ks') (es := es) h.2 (by simpa using hl)
    have hk : ∃ k0, k' = some k0 ∧ PE X k0 (tC (kV k)) := by
      have hk := h.1
      unfold keyB at hk
      split at hk
      · cases (of_decide_eq_true hk); exact ⟨_, rfl, pe_int⟩
      · cases (of_decide_eq_true hk); exact ⟨_, rfl, pe_str⟩
      · cases hk
    obtain ⟨k0, rfl, pk⟩ := hk
    exact ⟨_, pps_cons pk pWE ht, by rw [he]; rfl⟩
  | [], _ :: _, _, h, _ => by simp [keysB] at h
  | _ :: _, [], _, h, _ => by simp [keysB] at h
  | [], [], _ :: _, _, h => by simp at h
  | _ :: _, _ :: _, [], _, h => by simp at h
theorem keys_len : ∀ {ks : List Key} {ks' : List (Option Expr)}, keysB ks ks' = true → ks'.length = ks.length ∧ ks'.all (·.isSome) = true
  | [], [], _ => ⟨rfl, rfl⟩
  | k :: ks, k' :: ks', h => by
    simp only [keysB, Bool.and_eq_true] at h
    obtain ⟨h1, h2⟩ := keys_len h.2
    refine ⟨by simp [h1], ?_⟩
    have hk := h.1
    unfold keyB at hk
    split at hk
    · simpa using h2
    · simpa using h2
    · cases hk
  | [], _ :: _, h => by simp [keysB] at h
  | _ :: _, [], h => by simp [keysB] at h
theorem kvr_fold {K : PySem.W.Frag} {ρ : List Addr} {H : Hp} : ∀ {ks : List Key} {ws : List W} {vs : List V} {l : List (Key × W)} {l' : List (Key × V)}, ValsR K ρ H ws vs → KvR K ρ H l l' →
    KvR K ρ H ((ks.zip ws).foldl (fun a p => dset a p.1 p.2) l) (((ks.zip vs).foldl (fun a p => putK a p.1 p.2) l'))
  | [], ws, vs, l, l', h, hl => by simpa using hl
  | k :: ks, [], _, l, l', h, hl => by rw [h.nil_inv]; simpa using hl
  | k :: ks, w :: ws, _, l, l', h, hl => by
    obtain ⟨x, xs, rfl, h1, h2⟩ := h.uncons
    rw [List.zip_cons_cons, List.zip_cons_cons, List.foldl_cons, List.foldl_cons]
    exact kvr_fold h2 (kvr_put hl h1)

def SndD (X : Cx) (cl : Nat → Option Addr) (m : Env → VH → R (List W)) (es : List Expr) : Prop := ∀ (ks : List Key), ks.length = es.length → ∀ ρ vh env σ H Q ws vh', Rel X.K cl ρ vh H → EnvR X.K X.N ρ H env σ → m env vh = .ok ws vh' →
  (∀ ρ' H' vs, Fr ρ H ρ' H' → Rel X.K cl ρ' vh' H' → ValsR X.K ρ' H' ws vs → Q ((ks.zip vs).map fun p => (kV p.1, p.2)) H') → tPairs ((ks.zip es).map fun p => (tC (kV p.1), WE X p.2)) σ H Q
theorem snd_nilD : SndD X cl (fun _ h => .ok [] h) [] := by
  intro ks hk ρ vh env σ H Q ws vh' R E e p
  cases e
  have : ks = [] := List.length_eq_zero_iff.mp hk
  subst this
  exact p ρ H [] Fr.rfl' R .nil
theorem snd_consD {me : Env → VH → R W} {ms : Env → VH → R (List W)} {e : Expr} {es : List Expr} (he : SndE X cl me e) (hes : SndD X cl ms es) :
    SndD X cl (fun env h => (me env h).bind fun x h1 => (ms env h1).bind fun xs h2 => .ok (x :: xs) h2) (e :: es) := by
  intro ks hk ρ vh env σ H Q ws vh' R E e' p
  obtain ⟨x, h1, e1, e2'⟩ := bnd e'; clear e'
  obtain ⟨xs, h2, e2, e'⟩ := bnd e2'; clear e2'
  cases e'
  cases ks with
  | nil => simp at hk
  | cons k ks =>
    rw [List.zip_cons_cons, List.map_cons]
    show tPairs ((tC (kV k), WE X e) :: _) σ H Q
    refine he ρ vh env σ H _ x h1 R E e1 fun ρ1 H1 v F1 R1 V1 => ?_
    refine hes ks (by simpa using hk) ρ1 h1 env σ H1 _ xs _ R1 (E.stay R F1) e2 fun ρ2 H2 vs F2 R2 V2 => ?_
    exact p ρ2 H2 (v :: vs) (F1.trans F2) R2 (.cons (V1.stay R1 F2) V2)
theorem snd_dctE {ms : Env → VH → R (List W)} {ks : List Key} {ks' : List (Option Expr)} {es : List Expr} {pos : Pos} (hk : keysB ks ks' = true) (hlen : es.length = ks.length) (h15 : ks.length ≤ 15) (hs : SndD X cl ms es) (h0 : es = [] → ∀ env vh, ms env vh = .ok [] vh) :
    SndE X cl (fun env h => (ms env h).bind fun ws h1 => if ks.length = ws.length ∧ ks.length ≤ 15 then new (.dct ((ks.zip ws).foldl (fun a p => dset a p.1 p.2) [])) h1 else .bad) (.Dict ks' es pos) := by
  intro ρ vh env σ H Q w vh' R E e p
  obtain ⟨ws, h1, e1, e'⟩ := bnd e; clear e
  split at e'
  · rename_i hl
    cases e'
    obtain ⟨k1, k2⟩ := keys_len hk
    cases es with
    | nil =>
      have hks : ks = [] := List.length_eq_zero_iff.mp hlen.symm
      subst hks
      have hks' : ks' = [] := List.length_eq_zero_iff.mp k1
      subst hks'
      rw [h0 rfl] at e1
      cases e1
      exact WE.of pe_dnewK (Post.alloc R p fun q hq => ⟨[], upd_same, rfl⟩)
    | cons e0 es =>
      obtain ⟨trs, ht, he⟩ := pps_all (X := X) (pos := pos) (es := e0 :: es) hk (by rw [k1]; exact hlen.symm)
      refine WE.of (pe_disp ht k2 (by rw [k1]; exact hlen.symm) (fun z => by rw [z] at k1; simp at k1; rw [← k1] at hlen; simp at hlen) (by rw [k1]; exact h15)) ?_
      intro q hq
      rw [he]
      have np := R.free hq
      refine hs ks hlen.symm ρ vh env σ _ _ ws h1 (R.new hq) (E.stay R (Fr.new hq)) e1 fun ρ2 H2 vs F2 R2 V2 => ?_
      obtain ⟨k3, k4⟩ := F2.keep q (.dK []) upd_same np
      have kp : Kp X.K ρ2 H2 ρ2 (upd H2 q (.dK (mergeK [] (ks.zip vs)))) := Kp.sideG (by rw [k3]; simp) (by rw [k3]; simp)
      refine ⟨k3, ks.zip vs, rfl, ?_, ?_⟩
      · rw [List.length_zip]; omega
      · have F0 : Fr ρ H ρ2 H2 := (Fr.new hq).trans F2
        have F : Fr ρ H (ρ2 ++ [q]) (upd H2 q (.dK (mergeK [] (ks.zip vs)))) := by
          have a := F0.adopt (D := q) hq
          exact a.side hq
        refine p _ _ _ F ((R2.sideG (by rw [k3]; simp) (by rw [k3]; simp) k4).adoptG k4 ⟨_, upd_same, ?_⟩) (vr_ref.mpr ⟨q, rfl, R2.fresh⟩)
        exact KvR.keep Kp.more (KvR.keep kp (kvr_fold (ks := ks) V2 (l := []) (l' := []) rfl))
  · cases e'

/-! ### xs[::-1] of a list -/
theorem snd_revE {ma : Env → VH → R W} {a : Expr} {k : Nat} {p1 p2 p3 pos : Pos} (ha : SndE X cl ma a) (hnt : ∀ env h h' ws, ma env h ≠ .ok (.tup ws) h') :
    SndE X cl (fun env h => (ma env h).bind fun x h1 => revW x h1) (.Subscript a (.Slice none none (some (.UnaryOp .USub (.Constant (.int 1) k p1) p2)) p3) pos) := by
  intro ρ vh env σ H Q w vh' R E e p
  obtain ⟨x, h1, e1, e'⟩ := bnd e; clear e
  unfold revW at e'
  split at e'
  · exact absurd e1 (hnt _ _ _ _)
  · split at e'
    · rename_i r ws hz
      cases e'
      refine WE.of (pe_revL pWE) (ha ρ vh env σ H _ _ h1 R E e1 fun ρ1 H1 v F1 R1 V1 => ?_)
      obtain ⟨q, xs, rfl, _, hq, hv⟩ := R1.lst hz V1
      exact ⟨q, xs, rfl, SqL.of hq, Post.lst R1 (p.from F1) hv.reverse⟩
    · cases e'
  · cases e'

/-! ### what is walked -/
structure ItR (K : PySem.W.Frag) (cl : Nat → Option Addr) (J : It) (its : Its) (ρ2 : List Addr) (H1 : Hp) : Prop where
  stop : ∀ ρ h H i, Fr ρ2 H1 ρ H → Rel K cl ρ h H → itAt h i its = some none → J.stop i H
  go : ∀ ρ h H i w, Fr ρ2 H1 ρ H → Rel K cl ρ h H → itAt h i its = some (some w) → J.go i H
  yld : ∀ ρ h H i w x H', Fr ρ2 H1 ρ H → Rel K cl ρ h H → itAt h i its = some (some w) → J.yld i H x H' → Fr ρ H ρ H' ∧ Rel K cl ρ h H' ∧ ValR K ρ H' w x
def SndI (X : Cx) (cl : Nat → Option Addr) (m : Env → VH → R Its) (tg e : Expr) : Prop := ∀ ρ vh env σ H Rr its vh', Rel X.K cl ρ vh H → EnvR X.K X.N ρ H env σ → m env vh = .ok its vh' →
  (∀ ρ' H' J, Fr ρ H ρ' H' → Rel X.K cl ρ' vh' H' → ItR X.K cl J its ρ' H' → Rr J H') → WI X tg e σ H Rr
theorem itr_tup {K : PySem.W.Frag} {a : Addr} {xs : List V} {ws : List W} {ρ : List Addr} {vh : VH} {H : Hp} (R : Rel K cl ρ vh H) (h1 : SqT K H a xs) (h2 : ValsR K ρ H ws xs) : ItR K cl (Itt K a) (.ws ws) ρ H where
  stop := fun ρ' h H' i F R' e => ⟨xs, SqT.stay R F h1, by
    have e' : ws[i]? = none := by simpa [itAt] using e
    have := List.getElem?_eq_none_iff.mp e'
    rw [h2.length]; omega⟩
  go := fun ρ' h H' i w F R' e => by
    have e' : ws[i]? = some w := by simpa [itAt] using e
    obtain ⟨x, hx, _⟩ := h2.get e'
    exact ⟨xs, x, SqT.stay R F h1, hx⟩
  yld := fun ρ' h H' i w x H2 F R' e y => by
    have e' : ws[i]? = some w := by simpa [itAt] using e
    obtain ⟨rfl, hy⟩ := y
    obtain ⟨z, hz, hr⟩ := h2.get e'
    have := hy xs (SqT.stay R F h1)
    rw [hz] at this; cases this
    exact ⟨Fr.rfl', R', hr.stay R F⟩
theorem itr_rol {K : PySem.W.Frag} {a : Addr} {xs : List V} {ws : List W} {ρ : List Addr} {vh : VH} {H : Hp} (R : Rel K cl ρ vh H) (h1 : RoL K H a xs) (h2 : ValsR K ρ H ws xs) : ItR K cl (Itl K a) (.ws ws) ρ H where
  stop := fun ρ' h H' i F R' e => ⟨xs, (RoL.stay R F h1).sql, by
    have e' : ws[i]? = none := by simpa [itAt] using e
    have := List.getElem?_eq_none_iff.mp e'
    rw [h2.length]; omega⟩
  go := fun ρ' h H' i w F R' e => by
    have e' : ws[i]? = some w := by simpa [itAt] using e
    obtain ⟨x, hx, _⟩ := h2.get e'
    exact ⟨xs, x, (RoL.stay R F h1).sql, hx⟩
  yld := fun ρ' h H' i w x H2 F R' e y => by
    have e' : ws[i]? = some w := by simpa [itAt] using e
    obtain ⟨rfl, hy⟩ := y
    obtain ⟨z, hz, hr⟩ := h2.get e'
    have := hy xs (RoL.stay R F h1).sql
    rw [hz] at this; cases this
    exact ⟨Fr.rfl', R', hr.stay R F⟩
theorem itr_live {K : PySem.W.Frag} {a : Addr} {r : Nat} {ρ : List Addr} {H : Hp} (hr : ρ[r]? = some a) : ItR K cl (Itl K a) (.live r) ρ H where
  stop := fun ρ' h H' i F R' e => by
    simp only [itAt] at e
    split at e
    · rename_i ws hw
      cases e' : ws[i]? with
      | some _ => rw [e'] at e; cases e
      | none =>
        obtain ⟨xs, h1, h2⟩ := R'.at (F.get hr) (listAt_some hw)
        have := List.getElem?_eq_none_iff.mp e'
        exact ⟨xs, SqL.of h1, by rw [h2.length]; omega⟩
    · cases e
  go := fun ρ' h H' i w F R' e => by
    simp only [itAt] at e
    split at e
    · rename_i ws hw
      obtain ⟨xs, h1, h2⟩ := R'.at (F.get hr) (listAt_some hw)
      obtain ⟨x, hx, _⟩ := h2.get (Option.some.inj e)
      exact ⟨xs, x, SqL.of h1, hx⟩
    · cases e
  yld := fun ρ' h H' i w x H2 F R' e y => by
    simp only [itAt] at e
    split at e
    · rename_i ws hw
      obtain ⟨xs, h1, h2⟩ := R'.at (F.get hr) (listAt_some hw)
      obtain ⟨z, hz, hzr⟩ := h2.get (Option.some.inj e)
      obtain ⟨rfl, hy⟩ := y
      have := hy xs (SqL.of h1)
      rw [hz] at this; cases this
      exact ⟨Fr.rfl', R', hzr⟩
    · cases e
theorem itr_fn {K : PySem.W.Frag} {m : Nat} {g : Nat → Int} {J : It} {ρ : List Addr} {H : Hp} (hs : ∀ i H, m ≤ i → J.stop i H) (hg : ∀ i H, i < m → J.go i H) (hy : ∀ i H x H', J.yld i H x H' → H' = H ∧ x = .int (g i)) :
    ItR K cl J (.ws ((List.range m).map fun k => .int (g k))) ρ H where
  stop := fun ρ' h H' i F R' e => hs i H' (by
    have e' : ((List.range m).map fun k => W.int (g k))[i]? = none := by simpa [itAt] using e
    have := List.getElem?_eq_none_iff.mp e'
    simpa using this)
  go := fun ρ' h H' i w F R' e => hg i H' (by
    have e' : ((List.range m).map fun k => W.int (g k))[i]? = some w := by simpa [itAt] using e
    have := (List.getElem?_eq_some_iff.mp e').1
    simpa using this)
  yld := fun ρ' h H' i w x H2 F R' e y => by
    have e' : ((List.range m).map fun k => W.int (g k))[i]? = some w := by simpa [itAt] using e
    obtain ⟨rfl, rfl⟩ := hy _ _ _ _ y
    have hi : i < m := by
      have := (List.getElem?_eq_some_iff.mp e').1
      simpa using this
    rw [List.getElem?_map, List.getElem?_range hi] at e'
    cases e'
    exact ⟨Fr.rfl', R', vr_int.mpr rfl⟩
theorem itr_str {K : PySem.W.Frag} {x : Str} {ρ : List Addr} {H : Hp} : ItR K cl (L2.Its x) (.ws (strW x)) ρ H where
  stop := fun ρ' h H' i F R' e => by
    have e' : (strW x)[i]? = none := by simpa [itAt] using e
    have := List.getElem?_eq_none_iff.mp e'
    simp only [strW, List.length_map, Array.length_toList] at this
    exact this
  go := fun ρ' h H' i w F R' e => by
    have e' : (strW x)[i]? = some w := by simpa [itAt] using e
    have := (List.getElem?_eq_some_iff.mp e').1
    simp only [strW, List.length_map, Array.length_toList] at this
    exact this
  yld := fun ρ' h H' i w y H2 F R' e q => by
    have e' : (strW x)[i]? = some w := by simpa [itAt] using e
    obtain ⟨rfl, c, hc, rfl⟩ := q
    unfold strW at e'
    rw [List.getElem?_map, Array.getElem?_toList, hc] at e'
    cases e'
    exact ⟨Fr.rfl', R', vr_str.mpr rfl⟩
theorem snd_plainI {ma : Env → VH → R W} {tg e : Expr} (ha : SndE X cl ma e) : SndI X cl (fun env h => ((ma env h).bind fun x h1 => .ok [x] h1).bind fun ws h1 => itsOf .plain ws h1) tg e := by
  intro ρ vh env σ H Rr its vh' R E e0 p
  obtain ⟨ws, h1, e1, e2⟩ := bnd e0; clear e0
  obtain ⟨x, h2, e3, e4⟩ := bnd e1; clear e1
  cases e4
  cases x <;> simp only [itsOf] at e2 <;> first | cases e2 | skip
  · refine WI.of (pi_str pWE) (ha ρ vh env σ H _ _ _ R E e3 fun ρ1 H1 v F1 R1 V1 => ?_)
    exact ⟨_, vr_str.mp V1, p _ _ _ F1 R1 itr_str⟩
  · refine WI.of (pi_tup pWE) (ha ρ vh env σ H _ _ _ R E e3 fun ρ1 H1 v F1 R1 V1 => ?_)
    obtain ⟨a, xs, rfl, q1, q2⟩ := vr_tup.mp V1
    exact ⟨a, rfl, ⟨xs, q1⟩, p _ _ _ F1 R1 (itr_tup R1 q1 q2)⟩
  · refine WI.of (pi_list pWE) (ha ρ vh env σ H _ _ _ R E e3 fun ρ1 H1 v F1 R1 V1 => ?_)
    obtain ⟨a, xs, rfl, q1, q2⟩ := vr_rol.mp V1
    exact ⟨a, rfl, ⟨xs, q1.sql⟩, p _ _ _ F1 R1 (itr_rol R1 q1 q2)⟩
  · split at e2 <;> cases e2
    rename_i ws hw
    refine WI.of (pi_list pWE) (ha ρ vh env σ H _ _ _ R E e3 fun ρ1 H1 v F1 R1 V1 => ?_)
    obtain ⟨a, xs, rfl, hr, q1, q2⟩ := R1.lst (listAt_some hw) V1
    exact ⟨a, rfl, ⟨xs, SqL.of q1⟩, p _ _ _ F1 R1 (itr_live hr)⟩
theorem inI_of {i : Int} (h : inI i = true) : -(2 ^ 62) ≤ i ∧ i < 2 ^ 62 := by
  unfold inI at h
  have := of_decide_eq_true h
  omega
theorem snd_rangeI (ok : XOk P G n cl X) {ms : Env → VH → R (List W)} {tg : Expr} {x : Str} {np pos : Pos} {es : List Expr} (hx : x = ("range" : Str)) (hg : glbB X.env.scope x = true) (hst : es.all notStar = true) (hlen : ∀ env h ws h', ms env h = .ok ws h' → ws.length = es.length) (hs : SndA X cl ms es) :
    SndI X cl (fun env h => (ms env h).bind fun ws h1 => itsOf .range ws h1) tg (.Call (.Name x np) es [] pos) := by
  subst hx
  intro ρ vh env σ H Rr its vh' R E e0 p
  obtain ⟨ws, h1, e1, e2⟩ := bnd e0; clear e0
  have hm : X.mg "range" = none := ok.blt _ (by decide +kernel)
  have hl := hlen _ _ _ _ e1
  unfold itsOf at e2
  split at e2
  · rename_i he; cases he
  · rename_i he; cases he
  · rename_i he; cases he
  · rename_i he; cases he
  · -- one
    split at e2
    · rename_i j _ hj
      cases e2
      match es, hl, hst with
      | [a], _, hst =>
        simp only [List.all_cons, List.all_nil, Bool.and_true] at hst
        refine WI.of (pi_range1 (gl_of hg) hm pWA (star_cons hst _ _)) (hs ρ vh env σ H _ _ _ R E e1 fun ρ1 H1 vs F1 R1 V1 => ?_)
        obtain ⟨y, ys, rfl, q1, q2⟩ := V1.uncons
        rw [q2.nil_inv, vr_int.mp q1]
        refine ⟨j, rfl, (inI_of hj).1, (inI_of hj).2, p _ _ _ F1 R1 ?_⟩
        exact itr_fn (m := (j - 0).toNat) (g := fun k => 0 + (k : Int)) (fun i H h => by show j.toNat ≤ i; omega) (fun i H h => by show i < j.toNat; omega) (fun i H x H' y => y)
    · cases e2
  · split at e2
    · rename_i i j _ hj
      cases e2
      match es, hl, hst with
      | [a, b], _, hst =>
        simp only [List.all_cons, List.all_nil, Bool.and_true, Bool.and_eq_true] at hst
        refine WI.of (pi_range2 (gl_of hg) hm pWA (by rw [star_cons hst.1, star_cons hst.2]; rfl) (star_cons hst.2 _ _)) (hs ρ vh env σ H _ _ _ R E e1 fun ρ1 H1 vs F1 R1 V1 => ?_)
        obtain ⟨y, ys, rfl, q1, q2⟩ := V1.uncons
        obtain ⟨z, zs, rfl, q3, q4⟩ := q2.uncons
        rw [q4.nil_inv, vr_int.mp q1, vr_int.mp q3]
        have b1 := inI_of hj.1
        have b2 := inI_of hj.2
        refine ⟨i, j, rfl, ⟨b1.1, b1.2, b2.1, b2.2⟩, p _ _ _ F1 R1 ?_⟩
        exact itr_fn (m := (j - i).toNat) (g := fun k => i + (k : Int)) (fun i H h => h) (fun i H h => h) (fun i H x H' y => y)
    · cases e2
  · split at e2
    · rename_i i j s _ hj
      cases e2
      obtain ⟨c1, c2, c3⟩ := hj
      match es, hl, hst with
      | [a, b, c], _, hst =>
        simp only [List.all_cons, List.all_nil, Bool.and_true, Bool.and_eq_true] at hst
        refine WI.of (pi_range3 (gl_of hg) hm pWA (star_cons hst.1 _ _) (star_plain _ _ (by simp [hst.2.1, hst.2.2]))) (hs ρ vh env σ H _ _ _ R E e1 fun ρ1 H1 vs F1 R1 V1 => ?_)
        obtain ⟨y, ys, rfl, q1, q2⟩ := V1.uncons
        obtain ⟨z, zs, rfl, q3, q4⟩ := q2.uncons
        obtain ⟨t, ts, rfl, q5, q6⟩ := q4.uncons
        rw [q6.nil_inv, vr_int.mp q1, vr_int.mp q3, vr_int.mp q5]
        refine ⟨i, j, s, (Builtin.Range.rangeSize i j s).toNat, rfl, ⟨c1, c2, c3, PyProof.Rows.rangeSize_toNat i j s⟩, p _ _ _ F1 R1 ?_⟩
        exact itr_fn (m := (Builtin.Range.rangeSize i j s).toNat) (g := fun k => i + (k : Int) * s) (fun i H h => h) (fun i H h => h) (fun i H x H' y => y)
    · cases e2
  · rename_i he; cases he
  · cases e2
end
end Nw

set_option Elab.async false
set_option linter.all false
set_option maxRecDepth 100000
set_option maxHeartbeats 1000000
/-! Nw, part G: targets, comprehensions, all expressions. -/
namespace Nw
open PySem PySem.Spec PyProof.Rows L2

theorem asg_cons {e : Expr} (h : notStar e = true) (es : List Expr) (env : PySem.Env) : assignEach (e :: es) env = (false, assign e env) :: assignEach es env := by
  cases e <;> first | rfl | cases h
theorem asg_plain : ∀ {es : List Expr} (env : PySem.Env), es.all notStar = true → (assignEach es env).length = es.length ∧ (assignEach es env).findIdx? (·.1) = none
  | [], _, _ => ⟨rfl, rfl⟩
  | e :: es, env, h => by
    rw [List.all_cons, Bool.and_eq_true] at h
    obtain ⟨h1, h2⟩ := asg_plain env h.2
    rw [asg_cons h.1]
    refine ⟨by rw [List.length_cons, List.length_cons, h1], ?_⟩
    rw [List.findIdx?_cons, h2]
    rfl
theorem wipe_get {σ : L2.St} : ∀ {vs : List Nat} {i : Nat}, (wipe σ vs)[i]? = if i ∈ vs ∧ i < σ.length then some none else σ[i]?
  | [], i => by simp [wipe]
  | v :: vs, i => by
    show ((wipe σ vs).set v none)[i]? = _
    by_cases hv : v = i
    · subst hv
      by_cases hl : v < σ.length
      · rw [List.getElem?_set_self (by rw [wipe_length]; exact hl), if_pos ⟨by simp, hl⟩]
      · rw [if_neg (fun z => hl z.2), List.getElem?_eq_none (by rw [List.length_set, wipe_length]; omega), List.getElem?_eq_none (by omega)]
    · rw [List.getElem?_set_ne hv, wipe_get]
      simp [Ne.symm hv]
theorem wipe_wipe {σ : L2.St} {vs : List Nat} : wipe (wipe σ vs) vs = wipe σ vs := by
  apply List.ext_getElem?
  intro i
  rw [wipe_get, wipe_length]
  split
  · rename_i h
    rw [wipe_get, if_pos h]
  · rfl
theorem wipe_set {σ : L2.St} {vs : List Nat} {i : Nat} {x : Option V} (h : i ∈ vs) : wipe (σ.set i x) vs = wipe σ vs := by
  apply List.ext_getElem?
  intro j
  rw [wipe_get, wipe_get, List.length_set]
  by_cases hj : j = i
  · subst hj
    by_cases hl : j < σ.length
    · rw [if_pos ⟨h, hl⟩, if_pos ⟨h, hl⟩]
    · rw [if_neg (fun z => hl z.2), if_neg (fun z => hl z.2), List.getElem?_eq_none (by rw [List.length_set]; omega), List.getElem?_eq_none (by omega)]
  · rw [List.getElem?_set_ne (Ne.symm hj)]

section
variable {P : Prog} {G : GN} {n : Nat} {cl : Nat → Option Addr} {X : Cx}
/-! ### targets that are names -/
def SndG (X : Cx) (cl : Nat → Option Addr) (t : TN) (tg : Expr) : Prop := ∀ ρ vh env σ H Q w v env', Rel X.K cl ρ vh H → EnvR X.K X.N ρ H env σ → bindT t w env = some env' → ValR X.K ρ H w v →
  (∀ σ', EnvR X.K X.N ρ H env' σ' → (∀ own, tnIn own t = true → wipe σ' own = wipe σ own) → Q σ' H) → WG X tg v σ H Q
def SndGs (X : Cx) (cl : Nat → Option Addr) (ts : List TN) (tgs : List Expr) : Prop := ∀ ρ vh env σ H Q ws vs env', Rel X.K cl ρ vh H → EnvR X.K X.N ρ H env σ → bindTs ts ws env = some env' → ValsR X.K ρ H ws vs →
  (∀ σ', EnvR X.K X.N ρ H env' σ' → (∀ own, tnIns own ts = true → wipe σ' own = wipe σ own) → Q σ' H) → WGs X tgs vs σ H Q
abbrev LocOk (X : Cx) (loc : Str → Bool) : Prop := ∀ x, loc x = true → Loc X.env.scope x ∧ (X.fn x = true ∨ X.env.scope.names.lookup x = some .local)
theorem tns_star {N : List Str} {loc : Str → Bool} : ∀ {ts : List TN} {es : List Expr}, chkTNs N loc ts es = true → es.all notStar = true ∧ es.length = ts.length
  | [], [], _ => ⟨rfl, rfl⟩
  | t :: ts, e :: es, h => by
    simp only [chkTNs, Bool.and_eq_true] at h
    obtain ⟨h1, h2⟩ := tns_star h.2
    exact ⟨by rw [List.all_cons, h.1.1, h1]; rfl, by simp [h2]⟩
  | [], _ :: _, h => by simp [chkTNs] at h
  | _ :: _, [], h => by simp [chkTNs] at h
theorem binds_len : ∀ {ts : List TN} {ws : List W} {env env' : Env}, bindTs ts ws env = some env' → ws.length = ts.length
  | [], [], _, _, _ => rfl
  | t :: ts, w :: ws, _, _, h => by
    simp only [bindTs] at h
    split at h
    · simp [binds_len h]
    · cases h
  | [], _ :: _, _, _, h => by simp [bindTs] at h
  | _ :: _, [], _, _, h => by simp [bindTs] at h
mutual
theorem sndTN (ok : XOk P G n cl X) {loc : Str → Bool} (hl : LocOk X loc) : ∀ {t : TN} {e : Expr}, chkTN X.N loc t e = true → SndG X cl t e
  | .nm i, .Name x _, h => by
    simp only [chkTN, Bool.and_eq_true, decide_eq_true_eq] at h
    obtain ⟨h1, h2⟩ := hl x h.2
    intro ρ vh env σ H Q w v env' R E e V q
    cases e
    refine WG.of (pg_name ok.nd h.1 h1 h2) (q _ (E.set (List.getElem?_eq_some_iff.mp h.1).1 V) fun own ho => ?_)
    exact wipe_set (by simpa [tnIn] using ho)
  | .tp ts, .Tuple es _ _, h => by
    simp only [chkTN] at h
    have ih := sndTNs ok hl h
    obtain ⟨s1, s2⟩ := tns_star h
    obtain ⟨a1, a2⟩ := asg_plain X.env s1
    intro ρ vh env σ H Q w v env' R E e V q
    cases w <;> simp only [bindT] at e <;> first | cases e | skip
    rename_i ws
    obtain ⟨p, xs, rfl, k1, k2⟩ := vr_tup.mp V
    refine WG.of (pg_tup ok.calm pWGs a1 a2) ⟨p, xs, rfl, k1, by rw [k2.length, binds_len e, s2], ih ρ vh env σ H Q ws xs env' R E e k2 fun σ' E' hw => q σ' E' fun own ho => hw own (by simpa [tnIn] using ho)⟩
  | .nm _, .BoolOp .., h | .nm _, .NamedExpr .., h | .nm _, .BinOp .., h | .nm _, .UnaryOp .., h | .nm _, .Lambda .., h | .nm _, .IfExp .., h | .nm _, .Dict .., h | .nm _, .Set .., h | .nm _, .ListComp .., h | .nm _, .SetComp .., h | .nm _, .DictComp .., h
  | .nm _, .GeneratorExp .., h | .nm _, .Await .., h | .nm _, .Yield .., h | .nm _, .YieldFrom .., h | .nm _, .Compare .., h | .nm _, .Call .., h | .nm _, .FormattedValue .., h | .nm _, .JoinedStr .., h | .nm _, .Constant .., h | .nm _, .Attribute .., h | .nm _, .Subscript .., h
  | .nm _, .Starred .., h | .nm _, .List .., h | .nm _, .Tuple .., h | .nm _, .Slice .., h => by simp [chkTN] at h
  | .tp _, .BoolOp .., h | .tp _, .NamedExpr .., h | .tp _, .BinOp .., h | .tp _, .UnaryOp .., h | .tp _, .Lambda .., h | .tp _, .IfExp .., h | .tp _, .Dict .., h | .tp _, .Set .., h | .tp _, .ListComp .., h | .tp _, .SetComp .., h | .tp _, .DictComp .., h
  | .tp _, .GeneratorExp .., h | .tp _, .Await .., h | .tp _, .Yield .., h | .tp _, .YieldFrom .., h | .tp _, .Compare .., h | .tp _, .Call .., h | .tp _, .FormattedValue .., h | .tp _, .JoinedStr .., h | .tp _, .Constant .., h | .tp _, .Attribute .., h | .tp _, .Subscript .., h
  | .tp _, .Starred .., h | .tp _, .List .., h | .tp _, .Name .., h | .tp _, .Slice .., h => by simp [chkTN] at h
theorem sndTNs (ok : XOk P G n cl X) {loc : Str → Bool} (hl : LocOk X loc) : ∀ {ts : List TN} {es : List Expr}, chkTNs X.N loc ts es = true → SndGs X cl ts es
  | [], [], _ => by
    intro ρ vh env σ H Q ws vs env' R E e V q
    cases ws <;> simp only [bindTs] at e <;> first | cases e | skip
    rw [V.nil_inv]
    exact WGs.of pgs_nil ⟨rfl, q _ E fun _ _ => rfl⟩
  | t :: ts, e0 :: es, h => by
    simp only [chkTNs, Bool.and_eq_true] at h
    have i1 := sndTN ok hl h.1.2
    have i2 := sndTNs ok hl h.2
    intro ρ vh env σ H Q ws vs env' R E e V q
    cases ws with
    | nil => simp [bindTs] at e
    | cons w ws =>
      simp only [bindTs] at e
      split at e
      · rename_i env1 e1
        obtain ⟨x, xs, rfl, v1, v2⟩ := V.uncons
        refine WGs.of (pgs_cons pWG pWGs (by rw [asg_cons h.1.1]; rfl)) ⟨x, xs, rfl, i1 ρ vh env σ H _ w x env1 R E e1 v1 fun σ1 E1 hw1 => i2 ρ vh env1 σ1 H _ ws xs env' R E1 e v2 fun σ2 E2 hw2 => q σ2 E2 fun own ho => ?_⟩
        simp only [tnIns, Bool.and_eq_true] at ho
        rw [hw2 own ho.2, hw1 own ho.1]
      · cases e
  | [], _ :: _, h => by simp [chkTNs] at h
  | _ :: _, [], h => by simp [chkTNs] at h
end

/-! ### comprehensions -/
/-- for every context of the block -/
abbrev Blk (X : Cx) (scope : Scope) (F : Cx → Prop) : Prop := ∀ (s : Shared) (H : Hp) (C : Addr) (clo : List (Str × Addr)) (fp : List Addr), F (X.blk s H scope (compEnvC scope clo C X.env) fp)
abbrev bTE (X : Cx) (scope : Scope) (e : Expr) : TE := fun σ H Q => Blk X scope fun Y => WE Y e σ H Q
abbrev bTG (X : Cx) (scope : Scope) (e : Expr) : TG := fun v σ H Q => Blk X scope fun Y => WG Y e v σ H Q
def SndTs (X : Cx) (cl : Nat → Option Addr) (scope : Scope) (m : Env → VH → R Bool) (ifs : List Expr) : Prop := ∃ tt : TT, (Blk X scope fun Y => PTs Y ifs tt) ∧
  ∀ ρ vh env σ H Q k vh', Rel X.K cl ρ vh H → EnvR X.K X.N ρ H env σ → m env vh = .ok k vh' → PostT X.K cl ρ H vh' k Q → tt σ H Q
theorem snd_ts0 {scope : Scope} : SndTs X cl scope (fun _ h => .ok true h) [] := ⟨tYes, fun _ _ _ _ _ => pts_nil, fun ρ vh env σ H Q k vh' R E e p => by cases e; exact p _ _ Fr.rfl' R⟩
theorem snd_ts1 {scope : Scope} {m : Env → VH → R Bool} {c : Expr} (h : Blk X scope fun Y => SndT Y cl m c) : SndTs X cl scope m [c] :=
  ⟨fun σ H Q => Blk X scope fun Y => WT Y c σ H Q, fun s H C clo fp => pts_one ⟨fun pins s' σ H' Q I q => q s H C clo fp pins s' I⟩, fun ρ vh env σ H Q k vh' R E e p s H0 C clo fp => h s H0 C clo fp ρ vh env σ H Q k vh' R E e p⟩
abbrev lcF (t : TN) (own : List Nat) (mt : Env → VH → R Bool) (me : Env → VH → R W) (env : Env) : W → VH → R (Option W) := fun w h => match bindT t w (wipeE env own) with
  | none => .bad
  | some e => (mt e h).bind fun b h => if b then (me e h).bind fun x h => .ok (some x) h else .ok none h
theorem lc_read {scope : Scope} {own : List Nat} {t : TN} {mi : Env → VH → R Its} {mt : Env → VH → R Bool} {me : Env → VH → R W} {tg iter elt : Expr} {ifs : List Expr}
    (hi : SndI X cl mi tg iter) (hg : Blk X scope fun Y => SndG Y cl t tg) (hin : tnIn own t = true) {tt : TT}
    (qt : ∀ ρ vh env σ H Q k vh', Rel X.K cl ρ vh H → EnvR X.K X.N ρ H env σ → mt env vh = .ok k vh' → PostT X.K cl ρ H vh' k Q → tt σ H Q) (he : Blk X scope fun Y => SndE Y cl me elt)
    {ρ : List Addr} {vh vh' : VH} {env : Env} {σ : L2.St} {H : Hp} {Q : VK} {w : W} (R : Rel X.K cl ρ vh H) (E : EnvR X.K X.N ρ H env σ)
    (e : ((mi env vh).bind fun its h2 => (lcRun its (lcF t own mt me env) (itLen h2 its + 1) 0 [] h2).bind fun acc h3 => newL acc h3) = .ok w vh') (p : Post X.K cl ρ H vh' w Q) :
    tLc (WI X tg iter) (bTG X scope tg) tt (bTE X scope elt) own σ H Q := by
  obtain ⟨its, h2, e1, e'⟩ := bnd e; clear e
  obtain ⟨accF, hF, e2, e3⟩ := bnd e'; clear e'
  unfold newL at e3
  split at e3
  · rename_i hlen
    cases e3
    refine hi ρ vh env σ H _ its h2 R E e1 fun ρ1 H1 J F1 R1 I1 D hD => ?_
    refine ⟨fun i m H' => ∃ ρ2 hh acc xs, Fr ρ1 H1 ρ2 H' ∧ Rel X.K cl ρ2 hh H' ∧ D ∉ ρ2 ∧ H' D = some (.lst xs) ∧ ValsR X.K ρ2 H' acc xs ∧ lcRun its (lcF t own mt me env) m i acc hh = .ok accF hF,
      ⟨_, ρ1, h2, [], [], Fr.new hD, R1.new hD, R1.free hD, upd_same, .nil, e2⟩, ?_⟩
    rintro i m H' ⟨ρ2, hh, acc, xs, F2, R2, nD, hDx, hv, run⟩
    cases m with
    | zero => cases run
    | succ m =>
      simp only [lcRun] at run
      split at run
      · cases run
      · rename_i hit
        cases run
        refine .inl ⟨I1.stop ρ2 _ H' i F2 R2 hit, ?_⟩
        exact p (ρ2 ++ [D]) H' _ (F1.trans (F2.adopt hD)) (R2.adoptG nD ⟨xs, hDx, ValsR.keep Kp.more hv⟩) (vr_ref.mpr ⟨D, rfl, R2.fresh⟩)
      · rename_i w' hit
        refine .inr ⟨I1.go ρ2 _ H' i w' F2 R2 hit, _, fun _ h => h, fun x H2 y => ?_⟩
        obtain ⟨F3, R3, V3⟩ := I1.yld ρ2 _ H' i w' x H2 F2 R2 hit y
        obtain ⟨r, h3, e3, run⟩ := bnd run
        simp only [lcF] at e3
        split at e3
        · cases e3
        · rename_i env' hb
          obtain ⟨b, h4, e4, e5⟩ := bnd e3; clear e3
          intro s0 H0 C clo fp
          have EW : EnvR X.K X.N ρ2 H2 (wipeE env own) (wipe σ own) := (((E.stay R F1).stay R1 (F2.trans F3))).wipe own
          refine hg s0 H0 C clo fp ρ2 hh (wipeE env own) (wipe σ own) H2 _ w' x env' R3 EW hb V3 fun σ' E' hw => ⟨by rw [hw own hin, wipe_wipe], ?_⟩
          obtain ⟨d1, n1⟩ := F3.keep D _ hDx nD
          refine qt ρ2 hh env' σ' H2 _ b h4 R3 E' e4 fun ρ3 H3 F4 R4 => ?_
          obtain ⟨d2, n2⟩ := F4.keep D _ d1 n1
          have hv3 := (hv.stay R2 F3).stay R3 F4
          cases b with
          | false =>
            simp only [Bool.false_eq_true, if_false] at e5 ⊢
            cases e5
            exact ⟨m, Nat.lt_succ_self m, ρ3, _, acc, xs, (F2.trans F3).trans F4, R4, n2, d2, hv3, run⟩
          | true =>
            simp only [if_true] at e5 ⊢
            obtain ⟨z, h5, e6, e7⟩ := bnd e5; clear e5
            cases e7
            intro s1 H1' C1 clo1 fp1
            refine he s1 H1' C1 clo1 fp1 ρ3 h4 env' σ' H3 _ z _ R4 (E'.stay R3 F4) e6 fun ρ4 H4 y F5 R5 V5 => ?_
            obtain ⟨d3, n3⟩ := F5.keep D _ d2 n2
            have hv4 := hv3.stay R4 F5
            have run : (if acc.length < line then lcRun its (lcF t own mt me env) m (i + 1) (acc ++ [z]) h3 else .bad) = .ok accF hF := run
            split at run
            · rename_i hz
              refine ⟨xs, d3, by rw [hv4.length, ← line_eq]; exact hz, m, Nat.lt_succ_self m, ρ4, _, acc ++ [z], xs ++ [y], (((F2.trans F3).trans F4).trans F5).side hD, R5.sideG (by rw [d3]; simp) (by rw [d3]; simp) n3, n3, upd_same, ?_, run⟩
              exact ValsR.keep (Kp.sideG (by rw [d3]; simp) (by rw [d3]; simp)) (hv4.append (.cons V5 .nil))
            · cases run
  · cases e3
theorem pbTE {scope : Scope} {e : Expr} : Blk X scope fun Y => PE Y e (bTE X scope e) := fun s H C clo fp => ⟨fun pins s' σ H' Q I q => q s H C clo fp pins s' I⟩
theorem pbTG {scope : Scope} {e : Expr} : Blk X scope fun Y => PG Y e (bTG X scope e) := fun s H C clo fp => ⟨fun pins s' σ H' v u Q I r q => q s H C clo fp pins s' u I r⟩
theorem snd_lcE (ok : XOk P G n cl X) {scope : Scope} {ownP : List (Str × Nat)} {own : List Nat} {t : TN} {mi : Env → VH → R Its} {mt : Env → VH → R Bool} {me : Env → VH → R W} {tg iter elt : Expr} {ifs : List Expr} {pos : Pos}
    (hb : BlkOk X.N X.env.scope scope ownP) (hown : ownP.map (·.2) = own) (hset : notSet iter = true) (hi : SndI X cl mi tg iter) (hg : Blk X scope fun Y => SndG Y cl t tg) (hin : tnIn own t = true) (ht : SndTs X cl scope mt ifs) (he : Blk X scope fun Y => SndE Y cl me elt) :
    SndE X cl (fun env vh => (mi env vh).bind fun its h2 => (lcRun its (lcF t own mt me env) (itLen h2 its + 1) 0 [] h2).bind fun acc h3 => newL acc h3) (.ListComp elt [⟨tg, iter, ifs, 0⟩] scope pos) := by
  intro ρ vh env σ H Q w vh' R E e p
  obtain ⟨tt, pt, qt⟩ := ht
  refine WE.of (pe_lc ok.calm ok.nd pWI hb pbTG pt pbTE (fun x => notSet_of hset _ _)) ?_
  rw [hown]
  exact lc_read (ifs := ifs) hi hg hin qt he R E e p
end
end Nw

set_option Elab.async false
set_option linter.all false
set_option maxRecDepth 100000
set_option maxHeartbeats 4000000
/-! Nw, part H: all expressions. -/
namespace Nw
open PySem PySem.Spec PyProof.Rows L2
section
variable {P : Prog} {G : GN} {n : Nat} {cl : Nat → Option Addr} {X : Cx}
theorem SndE.congr {m m' : Env → VH → R W} {e : Expr} (h : ∀ env vh, m env vh = m' env vh) (q : SndE X cl m e) : SndE X cl m' e := fun ρ vh env σ H Q w vh' R E e1 p => q ρ vh env σ H Q w vh' R E ((h _ _).trans e1) p
theorem SndT.congr {m m' : Env → VH → R Bool} {e : Expr} (h : ∀ env vh, m env vh = m' env vh) (q : SndT X cl m e) : SndT X cl m' e := fun ρ vh env σ H Q w vh' R E e1 p => q ρ vh env σ H Q w vh' R E ((h _ _).trans e1) p
/-- all of a list -/
def AllS (X : Cx) (cl : Nat → Option Addr) (C : Cfg) : List E → List Expr → Prop
  | [], [] => True
  | a :: as, e :: es => notStar e = true ∧ SndE X cl (evE C a) e ∧ SndT X cl (evT C a) e ∧ AllS X cl C as es
  | _, _ => False
theorem AllS.star {C : Cfg} : ∀ {as : List E} {es : List Expr}, AllS X cl C as es → es.all notStar = true ∧ es.length = as.length
  | [], [], _ => ⟨rfl, rfl⟩
  | a :: as, e :: es, h => by
    obtain ⟨h1, h2⟩ := AllS.star h.2.2.2
    exact ⟨by rw [List.all_cons, h.1, h1]; rfl, by simp [h2]⟩
  | [], _ :: _, h => h.elim
  | _ :: _, [], h => h.elim
theorem AllS.a {C : Cfg} : ∀ {as : List E} {es : List Expr}, AllS X cl C as es → SndA X cl (evEs C as) es ∧ SndD X cl (evEs C as) es
  | [], [], _ => ⟨snd_nilA, snd_nilD⟩
  | a :: as, e :: es, h => by
    obtain ⟨h1, h2⟩ := AllS.a h.2.2.2
    exact ⟨snd_consA h.1 h.2.1 h1, snd_consD h.2.1 h2⟩
  | [], _ :: _, h => h.elim
  | _ :: _, [], h => h.elim
theorem evEs_len {C : Cfg} : ∀ {as : List E} {env : Env} {h h' : VH} {ws : List W}, evEs C as env h = .ok ws h' → ws.length = as.length
  | [], env, h, h', ws, e => by cases e; rfl
  | a :: as, env, h, h', ws, e => by
    obtain ⟨x, h1, e1, e2⟩ := bnd (show (evE C a env h).bind (fun x h1 => (evEs C as env h1).bind fun xs h2 => .ok (x :: xs) h2) = .ok ws h' from e)
    obtain ⟨xs, h2, e3, e4⟩ := bnd e2
    cases e4
    simp [evEs_len e3]
def SndB (X : Cx) (cl : Nat → Option Addr) (m : Env → VH → R Bool) (e : Expr) : Prop := ∀ ρ vh env σ H Q k vh', Rel X.K cl ρ vh H → EnvR X.K X.N ρ H env σ → m env vh = .ok k vh' → PostT X.K cl ρ H vh' k Q → WB X e σ H Q
theorem SndB.t {m : Env → VH → R Bool} {e : Expr} (h : SndB X cl m e) : SndT X cl m e := fun ρ vh env σ H Q k vh' R E e1 p pins s I => h ρ vh env σ H Q k vh' R E e1 p _ pins s I
abbrev tstOf (m : Env → VH → R W) : Env → VH → R Bool := fun env h => (m env h).bind fun x h1 => ok? (truW h1 x) h1
theorem and_all {C : Cfg} {pos : Pos} : ∀ {as : List E} {es : List Expr}, as ≠ [] → AllS X cl C as es → SndE X cl (evAnd C as) (.BoolOp .And es pos) ∧ SndB X cl (tstOf (evAnd C as)) (.BoolOp .And es pos)
  | [], _, h0, _ => absurd rfl h0
  | [a], [e], _, h => by
    refine ⟨fun ρ vh env σ H Q w vh' R E e1 p => WE.of (pe_one pWE) (h.2.1 ρ vh env σ H Q w vh' R E e1 p), fun ρ vh env σ H Q k vh' R E e1 p => WB.of (pw_and1 pWT) (h.2.2.1 ρ vh env σ H Q k vh' R E e1 p)⟩
  | a :: b :: as, e :: f :: es, _, h => by
    obtain ⟨i1, i2⟩ := and_all (pos := pos) (as := b :: as) (es := f :: es) (by simp) h.2.2.2
    refine ⟨fun ρ vh env σ H Q w vh' R E e1 p => ?_, fun ρ vh env σ H Q k vh' R E e1 p => ?_⟩
    · have e1 : (evE C a env vh).bind (fun x h1 => (ok? (truW h1 x) h1).bind fun k h2 => if k then evAnd C (b :: as) env h2 else .ok x h2) = .ok w vh' := e1
      obtain ⟨x, h1, e2, e3⟩ := bnd e1
      obtain ⟨k, h2, e4, e5⟩ := bnd e3
      obtain ⟨e4, rfl⟩ := ok?_ok e4
      refine WE.of (pe_andT pWE pWE) (h.2.1 ρ vh env σ H _ x _ R E e2 fun ρ1 H1 v F1 R1 V1 => ⟨k, tru_of R1 e4 V1, ?_⟩)
      cases k with
      | true => exact i1 ρ1 _ env σ H1 Q w vh' R1 (E.stay R F1) e5 (p.from F1)
      | false => cases e5; exact p _ _ _ F1 R1 V1
    · obtain ⟨w, h0, e1, ew⟩ := bnd e1
      have e1 : (evE C a env vh).bind (fun x h1 => (ok? (truW h1 x) h1).bind fun k h2 => if k then evAnd C (b :: as) env h2 else .ok x h2) = .ok w h0 := e1
      obtain ⟨x, h1, e2, e3⟩ := bnd e1
      obtain ⟨k', h2, e4, e5⟩ := bnd e3
      have et : evT C a env vh = .ok k' h2 := by unfold evT; rw [e2]; exact e4
      refine WB.of (pw_and pWT pWB) (h.2.2.1 ρ vh env σ H _ k' h2 R E et fun ρ1 H1 F1 R1 => ?_)
      cases k' with
      | true =>
        exact i2 ρ1 h2 env σ H1 Q k vh' R1 (E.stay R F1) (by show Nw.R.bind _ _ = _; rw [show evAnd C (b :: as) env h2 = .ok w h0 from e5]; exact ew) (p.from F1)
      | false =>
        cases e5
        obtain ⟨e4, rfl⟩ := ok?_ok e4
        obtain ⟨ew, rfl⟩ := ok?_ok ew
        rw [e4] at ew; cases ew
        exact p _ _ F1 R1
  | [a], [], _, h => h.elim
  | [a], _ :: _ :: _, _, h => h.2.2.2.elim
  | _ :: _ :: _, [], _, h => h.elim
  | _ :: _ :: _, [_], _, h => h.2.2.2.elim
theorem or_all {C : Cfg} {pos : Pos} : ∀ {as : List E} {es : List Expr}, as ≠ [] → AllS X cl C as es → SndE X cl (evOr C as) (.BoolOp .Or es pos) ∧ SndB X cl (tstOf (evOr C as)) (.BoolOp .Or es pos)
  | [], _, h0, _ => absurd rfl h0
  | [a], [e], _, h => by
    refine ⟨fun ρ vh env σ H Q w vh' R E e1 p => WE.of (pe_one pWE) (h.2.1 ρ vh env σ H Q w vh' R E e1 p), fun ρ vh env σ H Q k vh' R E e1 p => WB.of (pw_or1 pWT) (h.2.2.1 ρ vh env σ H Q k vh' R E e1 p)⟩
  | a :: b :: as, e :: f :: es, _, h => by
    obtain ⟨i1, i2⟩ := or_all (pos := pos) (as := b :: as) (es := f :: es) (by simp) h.2.2.2
    refine ⟨fun ρ vh env σ H Q w vh' R E e1 p => ?_, fun ρ vh env σ H Q k vh' R E e1 p => ?_⟩
    · have e1 : (evE C a env vh).bind (fun x h1 => (ok? (truW h1 x) h1).bind fun k h2 => if k then .ok x h2 else evOr C (b :: as) env h2) = .ok w vh' := e1
      obtain ⟨x, h1, e2, e3⟩ := bnd e1
      obtain ⟨k, h2, e4, e5⟩ := bnd e3
      obtain ⟨e4, rfl⟩ := ok?_ok e4
      refine WE.of (pe_orT pWE pWE) (h.2.1 ρ vh env σ H _ x _ R E e2 fun ρ1 H1 v F1 R1 V1 => ⟨k, tru_of R1 e4 V1, ?_⟩)
      cases k with
      | false => exact i1 ρ1 _ env σ H1 Q w vh' R1 (E.stay R F1) e5 (p.from F1)
      | true => cases e5; exact p _ _ _ F1 R1 V1
    · obtain ⟨w, h0, e1, ew⟩ := bnd e1
      have e1 : (evE C a env vh).bind (fun x h1 => (ok? (truW h1 x) h1).bind fun k h2 => if k then .ok x h2 else evOr C (b :: as) env h2) = .ok w h0 := e1
      obtain ⟨x, h1, e2, e3⟩ := bnd e1
      obtain ⟨k', h2, e4, e5⟩ := bnd e3
      have et : evT C a env vh = .ok k' h2 := by unfold evT; rw [e2]; exact e4
      refine WB.of (pw_or pWT pWB) (h.2.2.1 ρ vh env σ H _ k' h2 R E et fun ρ1 H1 F1 R1 => ?_)
      cases k' with
      | false =>
        exact i2 ρ1 h2 env σ H1 Q k vh' R1 (E.stay R F1) (by show Nw.R.bind _ _ = _; rw [show evOr C (b :: as) env h2 = .ok w h0 from e5]; exact ew) (p.from F1)
      | true =>
        cases e5
        obtain ⟨e4, rfl⟩ := ok?_ok e4
        obtain ⟨ew, rfl⟩ := ok?_ok ew
        rw [e4] at ew; cases ew
        exact p _ _ F1 R1
  | [a], [], _, h => h.elim
  | [a], _ :: _ :: _, _, h => h.2.2.2.elim
  | _ :: _ :: _, [], _, h => h.elim
  | _ :: _ :: _, [_], _, h => h.2.2.2.elim
theorem evT_nt {C : Cfg} {a : E} {env : Env} {h : VH} : ((evT C a env h).bind fun b h2 => .ok (!b) h2) = evT C (.nt a) env h := by
  unfold evT
  show _ = ((evE C a env h).bind fun x h1 => (ok? (truW h1 x) h1).bind fun b h2 => .ok (.bl (!b)) h2).bind fun x h1 => ok? (truW h1 x) h1
  cases evE C a env h with
  | bad => rfl
  | ok x h1 =>
    show (ok? (truW h1 x) h1).bind _ = ((ok? (truW h1 x) h1).bind _).bind _
    cases truW h1 x <;> rfl
theorem evT_cmp {C : Cfg} {o : Cop} {a b : E} {env : Env} {h : VH} : ((evE C a env h).bind fun x h1 => (evE C b env h1).bind fun y h2 => ok? (cmpW o x y h2) h2) = evT C (.cmp o a b) env h := by
  unfold evT
  show _ = ((evE C a env h).bind fun x h1 => (evE C b env h1).bind fun y h2 => (ok? (cmpW o x y h2) h2).bind fun k h3 => .ok (.bl k) h3).bind fun x h1 => ok? (truW h1 x) h1
  cases evE C a env h with
  | bad => rfl
  | ok x h1 =>
    show (evE C b env h1).bind _ = ((evE C b env h1).bind _).bind _
    cases evE C b env h1 with
    | bad => rfl
    | ok y h2 =>
      show ok? (cmpW o x y h2) h2 = ((ok? (cmpW o x y h2) h2).bind _).bind _
      cases cmpW o x y h2 <;> rfl
theorem evT_ite {C : Cfg} {c a b : E} {env : Env} {h : VH} : ((evT C c env h).bind fun k h2 => if k then evT C a env h2 else evT C b env h2) = evT C (.ite c a b) env h := by
  unfold evT
  show _ = ((evE C c env h).bind fun x h1 => (ok? (truW h1 x) h1).bind fun k h2 => if k then evE C a env h2 else evE C b env h2).bind fun x h1 => ok? (truW h1 x) h1
  cases evE C c env h with
  | bad => rfl
  | ok x h1 =>
    show (ok? (truW h1 x) h1).bind _ = ((ok? (truW h1 x) h1).bind _).bind _
    cases truW h1 x with
    | none => rfl
    | some k => cases k <;> rfl
theorem locOk_blk {scope : Scope} {s : Shared} {H : Hp} {C : Addr} {clo : List (Str × Addr)} {fp : List Addr} : LocOk (X.blk s H scope (compEnvC scope clo C X.env) fp) (locB scope) := by
  intro x hx
  unfold locB at hx
  split at hx
  · rename_i h
    have q := lookup_relS_keep (sc := X.env.scope) (by decide) h
    exact ⟨.inl q, .inr q⟩
  · rename_i h
    have q := lookup_relS_keep (sc := X.env.scope) (by decide) h
    exact ⟨.inr q, .inl (by show (scope.names.lookup x == some .cell) = true; rw [h]; rfl)⟩
  · cases hx
theorem its_of {C : Cfg} {k : IK} {as : List E} {e tg : Expr} (ok : XOk P G n cl X) (h : (match itArgs X.env.scope k e with | some es => AllS X cl C as es | none => False)) : SndI X cl (fun env vh => (evEs C as env vh).bind fun ws h1 => itsOf k ws h1) tg e := by
  cases k with
  | plain =>
    simp only [itArgs] at h
    split at h
    · rename_i hs
      split at hs <;> cases hs
      match as, h with
      | [a], h => exact snd_plainI h.2.1
      | [], h => exact h.elim
      | _ :: _ :: _, h => exact h.2.2.2.elim
    · exact h.elim
  | range =>
    unfold itArgs at h
    split at h
    · rename_i es hs
      split at hs
      · rename_i hk; cases hk
      · split at hs
        · rename_i hc
          cases hs
          simp only [Bool.and_eq_true, decide_eq_true_eq] at hc
          obtain ⟨s1, s2⟩ := h.star
          exact snd_rangeI ok hc.1 hc.2 s1 (fun env h0 ws h' e => by rw [s2]; exact evEs_len e) h.a.1
        · cases hs
      · cases hs
    · exact h.elim
  | zip =>
    unfold itArgs at h
    split at h
    · rename_i es hs
      split at hs
      · rename_i hk; cases hk
      · rename_i hk; cases hk
      · cases hs
    · exact h.elim

theorem SndE.val {C : Cfg} {a : E} {e : Expr} (hp : plainT e = true) (h : SndE X cl (evE C a) e) : SndE X cl (evE C a) e ∧ SndT X cl (evT C a) e := ⟨h, snd_valT hp h⟩
def BothE (X : Cx) (cl : Nat → Option Addr) (C : Cfg) (a : E) (e : Expr) : Prop := SndE X cl (evE C a) e ∧ SndT X cl (evT C a) e
theorem BothE.of {C : Cfg} {a : E} {e : Expr} (hp : plainT e = true) (h : SndE X cl (evE C a) e) : BothE X cl C a e := ⟨h, snd_valT hp h⟩
mutual
theorem sndE : ∀ (a : E) {X : Cx} (ok : XOk P G n cl X) (e : Expr), chkE X.N G X.env.scope a e = true → BothE X cl (P.cfg n) a e
  | .var i, X, ok, e, h => by
    cases e <;> first | (simp [chkE] at h; done) | skip
    simp only [chkE, Bool.and_eq_true, decide_eq_true_eq] at h
    exact .of rfl (snd_var h.1.1 h.1.2 h.2)
  | .cst w, X, ok, e, h => by
    have h : cstB w e = true := by cases e <;> simpa only [chkE] using h
    have hp : plainT e = true := by
      cases e <;> first | rfl | (cases w <;> simp [cstB] at h)
    exact .of hp (snd_cst h)
  | .gl x, X, ok, e, h => by
    cases e <;> first | (simp [chkE] at h; done) | skip
    simp only [chkE, Bool.and_eq_true, decide_eq_true_eq] at h
    cases h.1.1
    exact .of rfl (snd_gl ok h.1.2 h.2)
  | .bin o a b, X, ok, e, h => by
    cases e <;> first | (simp [chkE] at h; done) | skip
    simp only [chkE, Bool.and_eq_true] at h
    exact .of rfl (snd_binE ok h.1.1 (sndE a ok _ h.1.2).1 (sndE b ok _ h.2).1)
  | .neg a, X, ok, e, h => by
    cases e <;> first | (simp [chkE] at h; done) | skip
    rename_i op x pos
    cases op <;> first | (simp [chkE] at h; done) | skip
    simp only [chkE] at h
    exact .of rfl (snd_negE (sndE a ok _ h).1)
  | .nt a, X, ok, e, h => by
    cases e <;> first | (simp [chkE] at h; done) | skip
    rename_i op x pos
    cases op <;> first | (simp [chkE] at h; done) | skip
    simp only [chkE] at h
    have ih := sndE a ok _ h
    exact ⟨snd_ntE ih.1, .congr (fun env vh => evT_nt) (snd_ntT ih.2)⟩
  | .cmp o a b, X, ok, e, h => by
    cases e <;> first | (simp [chkE] at h; done) | skip
    rename_i l ops cs pos
    match ops, cs, h with
    | [o'], [b'], h =>
      simp only [chkE, Bool.and_eq_true] at h
      have i1 := (sndE a ok _ h.1.2).1
      have i2 := (sndE b ok _ h.2).1
      exact ⟨snd_cmpE ok h.1.1.1 h.1.1.2 i1 i2, .congr (fun env vh => evT_cmp) (snd_cmpT ok h.1.1.1 h.1.1.2 i1 i2)⟩
    | [], _, h => exact absurd h (by simp [chkE])
    | _ :: _ :: _, _, h => exact absurd h (by simp [chkE])
    | [_], [], h => exact absurd h (by simp [chkE])
    | [_], _ :: _ :: _, h => exact absurd h (by simp [chkE])
  | .chn o q a b c, X, ok, e, h => by
    cases e <;> first | (simp [chkE] at h; done) | skip
    rename_i l ops cs pos
    match ops, cs, h with
    | [o', q'], [b', c'], h =>
      simp only [chkE, Bool.and_eq_true] at h
      have i1 := (sndE a ok _ h.1.1.2).1
      have i2 := (sndE b ok _ h.1.2).1
      have i3 := (sndE c ok _ h.2).1
      exact ⟨snd_chnE ok h.1.1.1.1.1.1 h.1.1.1.1.1.2 h.1.1.1.1.2 h.1.1.1.2 i1 i2 i3, snd_chnT ok h.1.1.1.1.1.1 h.1.1.1.1.1.2 h.1.1.1.1.2 h.1.1.1.2 i1 i2 i3⟩
    | [], _, h => exact absurd h (by simp [chkE])
    | [_], _, h => exact absurd h (by simp [chkE])
    | _ :: _ :: _ :: _, _, h => exact absurd h (by simp [chkE])
    | [_, _], [], h => exact absurd h (by simp [chkE])
    | [_, _], [_], h => exact absurd h (by simp [chkE])
    | [_, _], _ :: _ :: _ :: _, h => exact absurd h (by simp [chkE])
  | .and as, X, ok, e, h => by
    cases e <;> first | (simp [chkE] at h; done) | skip
    rename_i op es pos
    cases op <;> first | (simp [chkE] at h; done) | skip
    simp only [chkE, Bool.and_eq_true, Bool.not_eq_true', List.isEmpty_eq_false_iff] at h
    obtain ⟨h1, h2⟩ := and_all (pos := pos) h.2 (sndEs as ok _ h.1)
    exact ⟨h1, h2.t⟩
  | .or as, X, ok, e, h => by
    cases e <;> first | (simp [chkE] at h; done) | skip
    rename_i op es pos
    cases op <;> first | (simp [chkE] at h; done) | skip
    simp only [chkE, Bool.and_eq_true, Bool.not_eq_true', List.isEmpty_eq_false_iff] at h
    obtain ⟨h1, h2⟩ := or_all (pos := pos) h.2 (sndEs as ok _ h.1)
    exact ⟨h1, h2.t⟩
  | .ite c a b, X, ok, e, h => by
    cases e <;> first | (simp [chkE] at h; done) | skip
    simp only [chkE, Bool.and_eq_true] at h
    have i1 := sndE c ok _ h.1.1
    have i2 := sndE a ok _ h.1.2
    have i3 := sndE b ok _ h.2
    refine ⟨.congr (fun env vh => ?_) (snd_iteE i1.2 i2.1 i3.1), .congr (fun env vh => evT_ite) (snd_iteT i1.2 i2.2 i3.2)⟩
    show ((evE _ c env vh).bind fun x h1 => ok? (truW h1 x) h1).bind _ = (evE _ c env vh).bind _
    cases evE (P.cfg n) c env vh <;> rfl
  | .tup as, X, ok, e, h => by
    cases e <;> first | (simp [chkE] at h; done) | skip
    simp only [chkE] at h
    exact .of rfl (snd_tupE (sndEs as ok _ h).a.1)
  | .lst as, X, ok, e, h => by
    cases e <;> first | (simp [chkE] at h; done) | skip
    simp only [chkE] at h
    exact .of rfl (snd_lstE (sndEs as ok _ h).a.1)
  | .dct ks as, X, ok, e, h => by
    cases e <;> first | (simp [chkE] at h; done) | skip
    simp only [chkE, Bool.and_eq_true, decide_eq_true_eq] at h
    have ih := sndEs as ok _ h.1.1.2
    refine .of rfl (snd_dctE h.1.1.1 (by rw [ih.star.2]; exact h.1.2) h.2 ih.a.2 fun he env vh => ?_)
    have : as = [] := List.length_eq_zero_iff.mp (by rw [← ih.star.2, he]; rfl)
    subst this
    rfl
  | .ix a b, X, ok, e, h => by
    cases e <;> first | (simp [chkE] at h; done) | skip
    simp only [chkE, Bool.and_eq_true] at h
    exact .of rfl (snd_ixE ok h.1.1 (sndE a ok _ h.1.2).1 (sndE b ok _ h.2).1)
  | .sl a lo hi, X, ok, e, h => by
    cases e <;> first | (simp [chkE] at h; done) | skip
    rename_i v s pos
    cases s <;> first | (simp [chkE] at h; done) | skip
    rename_i l u st p2
    cases st <;> first | (simp [chkE] at h; done) | skip
    simp only [chkE, Bool.and_eq_true] at h
    exact .of rfl (snd_slE (sndE a ok _ h.1.1).1 (sndO lo ok _ h.1.2) (sndO hi ok _ h.2))
  | .rev a, X, ok, e, h => by
    exact absurd h (by cases e <;> simp [chkE])
  | .call f as, X, ok, e, h => by
    cases e <;> first | (simp [chkE] at h; done) | skip
    rename_i fe es kws pos
    cases fe <;> first | (simp [chkE] at h; done) | skip
    cases kws <;> first | (simp [chkE] at h; done) | skip
    simp only [chkE, Bool.and_eq_true, decide_eq_true_eq] at h
    have ih := sndEs as ok _ h.2
    match as, es, ih with
    | [], [], _ => exact .of rfl (snd_call0E ok h.1.1.1 h.1.1.2 h.1.2)
    | a :: as, e0 :: es, ih => exact .of rfl (snd_callE ok h.1.1.1 h.1.1.2 h.1.2 ih.1 ih.2.2.2.star.1 ih.a.1)
    | [], _ :: _, ih => exact ih.elim
    | _ :: _, [], ih => exact ih.elim
  | .bi f as, X, ok, e, h => by
    cases e <;> first | (simp [chkE] at h; done) | skip
    rename_i fe es kws pos
    cases fe <;> first | (simp [chkE] at h; done) | skip
    cases kws <;> first | (simp [chkE] at h; done) | skip
    simp only [chkE, Bool.and_eq_true, decide_eq_true_eq] at h
    have ih := sndEs as ok _ h.1.2
    match as, es, ih, h with
    | [], [], _, h => exact absurd h.2 (by simp)
    | a :: as, e0 :: es, ih, h => exact .of rfl (snd_biE ok h.1.1.1 h.1.1.2 ih.1 ih.2.2.2.star.1 ih.a.1)
    | [], _ :: _, ih, _ => exact ih.elim
    | _ :: _, [], ih, _ => exact ih.elim
  | .isi a t, X, ok, e, h => by
    cases e <;> first | (simp [chkE] at h; done) | skip
    rename_i fe es kws pos
    cases fe <;> first | (simp [chkE] at h; done) | skip
    cases kws <;> first | (simp [chkE] at h; done) | skip
    match es, h with
    | [a', .Name y yp], h =>
      simp only [chkE, Bool.and_eq_true, decide_eq_true_eq] at h
      exact .of rfl (snd_isiE ok h.1.1.1.1.1 h.1.1.1.1.2 h.1.1.1.2 h.1.1.2 h.1.2 (sndE a ok _ h.2).1)
    | [], h => exact absurd h (by simp [chkE])
    | [_], h => exact absurd h (by simp [chkE])
    | _ :: _ :: _ :: _, h => exact absurd h (by simp [chkE])
    | [_, .BoolOp .. ], h | [_, .NamedExpr ..], h | [_, .BinOp ..], h | [_, .UnaryOp ..], h | [_, .Lambda ..], h | [_, .IfExp ..], h | [_, .Dict ..], h | [_, .Set ..], h | [_, .ListComp ..], h | [_, .SetComp ..], h | [_, .DictComp ..], h
    | [_, .GeneratorExp ..], h | [_, .Await ..], h | [_, .Yield ..], h | [_, .YieldFrom ..], h | [_, .Compare ..], h | [_, .Call ..], h | [_, .FormattedValue ..], h | [_, .JoinedStr ..], h | [_, .Constant ..], h | [_, .Attribute ..], h | [_, .Subscript ..], h
    | [_, .Starred ..], h | [_, .List ..], h | [_, .Tuple ..], h | [_, .Slice ..], h => exact absurd h (by simp [chkE])
  | .mth o m as, X, ok, e, h => by
    cases e <;> first | (simp [chkE] at h; done) | skip
    rename_i fe es kws cp
    cases fe <;> first | (simp [chkE] at h; done) | skip
    cases kws <;> first | (simp [chkE] at h; done) | skip
    rename_i o' m' ap
    simp only [chkE, Bool.and_eq_true, decide_eq_true_eq] at h
    obtain ⟨⟨⟨⟨⟨rfl, h2⟩, h3⟩, h4⟩, h5⟩, h6⟩ := h
    have i1 := (sndE o ok _ h3).1
    have ih := sndEs as ok _ h4
    match as, es, ih with
    | [], [], _ => exact .of rfl (snd_mth0E ok h2 h5 i1)
    | a :: as, e0 :: es, ih =>
      have l := ih.star.2
      exact .of rfl (snd_mthE ok h2 h5 ih.1 ih.2.2.2.star.1 (by rw [l]; omega) i1 ih.a.1)
    | [], _ :: _, ih => exact ih.elim
    | _ :: _, [], ih => exact ih.elim
  | .fld o f, X, ok, e, h => by
    exact absurd h (by cases e <;> simp [chkE])
  | .lc elt own tg k it cs, X, ok, e, h => by
    cases e <;> first | (simp [chkE] at h; done) | skip
    rename_i elt' gens scope pos
    match gens, h with
    | [⟨tg', it', ifs', a⟩], h =>
      simp only [chkE, Bool.and_eq_true, decide_eq_true_eq] at h
      obtain ⟨⟨⟨⟨⟨⟨⟨⟨rfl, h1⟩, h2⟩, h3⟩, h4⟩, h5⟩, h6⟩, h7⟩, h8⟩ := h
      have hi : SndI X cl (fun env vh => (evEs (P.cfg n) it env vh).bind fun ws h1 => itsOf k ws h1) tg' it' := its_of ok (by
        cases hit : itArgs X.env.scope k it' with
        | none => rw [hit] at h5; cases h5
        | some es =>
          rw [hit] at h5
          exact sndEs it ok es h5)
      have hg : Blk X scope fun Y => SndG Y cl tg tg' := fun s H C clo fp => sndTN (P := P) (G := G) (n := n) (X := X.blk s H scope (compEnvC scope clo C X.env) fp) (ok.blk s H scope _ fp) locOk_blk h4
      have he : Blk X scope fun Y => SndE Y cl (evE (P.cfg n) elt) elt' := fun s H C clo fp => (sndE elt (X := X.blk s H scope (compEnvC scope clo C X.env) fp) (ok.blk s H scope _ fp) elt' h8).1
      have ht : SndTs X cl scope (evTs (P.cfg n) cs) ifs' := by
        match cs, ifs', h6, h7 with
        | [], [], _, _ => exact snd_ts0
        | [c], [c'], h6, _ =>
          simp only [chkEs, Bool.and_true, Bool.and_eq_true] at h6
          refine snd_ts1 fun s H C clo fp => ?_
          have ic := (sndE c (X := X.blk s H scope (compEnvC scope clo C X.env) fp) (ok.blk s H scope _ fp) c' h6.2).2
          refine SndT.congr (fun env vh => ?_) ic
          show ((evE _ c env vh).bind fun x h1 => ok? (truW h1 x) h1) = (evE _ c env vh).bind fun x h1 => (ok? (truW h1 x) h1).bind fun k h2 => if k then .ok true h2 else .ok false h2
          cases evE (P.cfg n) c env vh with
          | bad => rfl
          | ok x h1 =>
            show ok? (truW h1 x) h1 = (ok? (truW h1 x) h1).bind _
            cases truW h1 x with
            | none => rfl
            | some k => cases k <;> rfl
        | [], _ :: _, h6, _ => simp [chkEs] at h6
        | [_], [], h6, _ => simp [chkEs] at h6
        | [_], _ :: _ :: _, h6, _ => simp [chkEs] at h6
        | _ :: _ :: _, _, _, h7 => simp at h7
      refine .of rfl (.congr (fun env vh => ?_) (snd_lcE ok (blkOk_by h3) (by simp [List.map_map, Function.comp_def]) h2 hi hg h1 ht he))
      show ((evEs _ it env vh).bind fun ws h1 => itsOf k ws h1).bind _ = (evEs _ it env vh).bind _
      cases evEs (P.cfg n) it env vh <;> rfl
    | [], h => exact absurd h (by simp [chkE])
    | _ :: _ :: _, h => exact absurd h (by simp [chkE])
theorem sndEs : ∀ (as : List E) {X : Cx} (ok : XOk P G n cl X) (es : List Expr), chkEs X.N G X.env.scope as es = true → AllS X cl (P.cfg n) as es
  | [], X, ok, es, h => by
    cases es with
    | nil => exact True.intro
    | cons _ _ => simp [chkEs] at h
  | a :: as, X, ok, es, h => by
    cases es with
    | nil => simp [chkEs] at h
    | cons e es =>
      simp only [chkEs, Bool.and_eq_true] at h
      have i1 := sndE a ok e h.1.2
      exact ⟨h.1.1, i1.1, i1.2, sndEs as ok es h.2⟩
theorem sndO : ∀ (a : Option E) {X : Cx} (ok : XOk P G n cl X) (e : Option Expr), chkO X.N G X.env.scope a e = true → SndO X cl (evO (P.cfg n) a) e
  | none, X, ok, e, h => by
    cases e with
    | none => exact snd_O0
    | some _ => simp [chkO] at h
  | some a, X, ok, e, h => by
    cases e with
    | none => simp [chkO] at h
    | some e =>
      simp only [chkO] at h
      exact snd_O1 (sndE a ok e h).1
end
end
end Nw

set_option Elab.async false
set_option linter.all false
set_option maxRecDepth 100000
set_option maxHeartbeats 4000000
/-! Nw, part I: statements. -/
namespace Nw
open PySem PySem.Spec PyProof.Rows L2

abbrev WS (X : Cx) (st : Stmt) : TS := fun D σ H => ∀ (pins : List (Addr × Obj)) (s : Shared), Inv X pins σ H s → wpAny (model X.prog X.w) X.A (exec st X.env) (SP X pins D) X.xe s
theorem pWS {X : Cx} {st : Stmt} : PS X st (WS X st) := ⟨fun pins s σ H D I h => h pins s I⟩
theorem WS.of {X : Cx} {st : Stmt} {t : TS} (h : PS X st t) {D : Ends} {σ : L2.St} {H : Hp} (q : t D σ H) : WS X st D σ H := fun pins s I => h.run pins s σ H D I q
abbrev WSs (X : Cx) (st : List Stmt) : TS := fun D σ H => ∀ (pins : List (Addr × Obj)) (s : Shared), Inv X pins σ H s → wpAny (model X.prog X.w) X.A (execs st X.env) (SP X pins D) X.xe s
theorem pWSs {X : Cx} {st : List Stmt} : PSs X st (WSs X st) := ⟨fun pins s σ H D I h => h pins s I⟩
theorem WSs.of {X : Cx} {st : List Stmt} {t : TS} (h : PSs X st t) {D : Ends} {σ : L2.St} {H : Hp} (q : t D σ H) : WSs X st D σ H := fun pins s I => h.run pins s σ H D I q

section
variable {P : Prog} {G : GN} {n : Nat} {cl : Nat → Option Addr} {X : Cx}
def EndOk (K : PySem.W.Frag) (ρ : List Addr) (H : Hp) (D : Ends) (σ : L2.St) : Fl → Prop
  | .nx => D.nx σ H
  | .rt w => ∀ v, ValR K ρ H w v → D.rt v H
  | .bk => D.bk σ H
  | .ct => D.ct σ H
abbrev PostS (X : Cx) (cl : Nat → Option Addr) (ρ : List Addr) (H : Hp) (vh' : VH) (fl : Fl) (env' : Env) (D : Ends) : Prop :=
  ∀ ρ' H' σ', Fr ρ H ρ' H' → Rel X.K cl ρ' vh' H' → EnvR X.K X.N ρ' H' env' σ' → EndOk X.K ρ' H' D σ' fl
theorem PostS.from {ρ ρ1 : List Addr} {H H1 : Hp} {vh' : VH} {fl : Fl} {env' : Env} {D : Ends} (F : Fr ρ H ρ1 H1) (p : PostS X cl ρ H vh' fl env' D) : PostS X cl ρ1 H1 vh' fl env' D := fun ρ' H' σ' f r e => p ρ' H' σ' (F.trans f) r e
def SndS (X : Cx) (cl : Nat → Option Addr) (m : Env → VH → R (Fl × Env)) (st : Stmt) : Prop := ∀ ρ vh env σ H D fl env' vh', Rel X.K cl ρ vh H → EnvR X.K X.N ρ H env σ → m env vh = .ok (fl, env') vh' → PostS X cl ρ H vh' fl env' D → WS X st D σ H
def SndSs (X : Cx) (cl : Nat → Option Addr) (m : Env → VH → R (Fl × Env)) (st : List Stmt) : Prop := ∀ ρ vh env σ H D fl env' vh', Rel X.K cl ρ vh H → EnvR X.K X.N ρ H env σ → m env vh = .ok (fl, env') vh' → PostS X cl ρ H vh' fl env' D → WSs X st D σ H

/-! ### targets of a statement -/
def SndTg (X : Cx) (cl : Nat → Option Addr) (C : Cfg) (t : Tg) (tg : Expr) : Prop := ∀ ρ vh env σ H Q w v env' vh', Rel X.K cl ρ vh H → EnvR X.K X.N ρ H env σ → asT C t w env vh = .ok env' vh' → ValR X.K ρ H w v →
  (∀ ρ' H' σ', Fr ρ H ρ' H' → Rel X.K cl ρ' vh' H' → EnvR X.K X.N ρ' H' env' σ' → Q σ' H') → WG X tg v σ H Q
def SndTgs (X : Cx) (cl : Nat → Option Addr) (C : Cfg) (ts : List Tg) (tgs : List Expr) : Prop := ∀ ρ vh env σ H Q ws vs env' vh', Rel X.K cl ρ vh H → EnvR X.K X.N ρ H env σ → asTs C ts ws env vh = .ok env' vh' → ValsR X.K ρ H ws vs →
  (∀ ρ' H' σ', Fr ρ H ρ' H' → Rel X.K cl ρ' vh' H' → EnvR X.K X.N ρ' H' env' σ' → Q σ' H') → WGs X tgs vs σ H Q
theorem asTs_len {C : Cfg} : ∀ {ts : List Tg} {ws : List W} {env env' : Env} {h h' : VH}, asTs C ts ws env h = .ok env' h' → ws.length = ts.length
  | [], [], _, _, _, _, _ => rfl
  | t :: ts, w :: ws, env, env', h, h', e => by
    obtain ⟨e1, h1, _, e2⟩ := bnd (show (asT C t w env h).bind (fun e h1 => asTs C ts ws e h1) = .ok env' h' from e)
    simp [asTs_len e2]
  | [], _ :: _, _, _, _, _, e => by simp [asTs] at e
  | _ :: _, [], _, _, _, _, e => by simp [asTs] at e
theorem tgs_star : ∀ {ts : List Tg} {es : List Expr} {N : List Str} {sc : Scope}, chkTs N G sc ts es = true → es.all notStar = true ∧ es.length = ts.length
  | [], [], _, _, _ => ⟨rfl, rfl⟩
  | t :: ts, e :: es, _, _, h => by
    simp only [chkTs, Bool.and_eq_true] at h
    obtain ⟨h1, h2⟩ := tgs_star h.2
    exact ⟨by rw [List.all_cons, h.1.1, h1]; rfl, by simp [h2]⟩
  | [], _ :: _, _, _, h => by simp [chkTs] at h
  | _ :: _, [], _, _, h => by simp [chkTs] at h
theorem asg_sub {o i : Expr} {pos : Pos} (h : notSlice i = true) (env : PySem.Env) (v : Value) : assign (.Subscript o i pos) env v = (do
      let ov ← holding [v] (eval o env)
      let iv ← holding [v, ov] (eval i env)
      standAt pos
      holding [v, ov, iv] (setItem ov iv v)
      release [v, ov, iv] []) := by
  cases i <;> first | rfl | cases h
theorem pg_sub' {o i : Expr} {pos : Pos} {to ti : TE} {t : TSet} (hi' : notSlice i = true) (ho : PE X o to) (hi : PE X i ti) (hs : PSet X t) : PG X (.Subscript o i pos) (gSub to ti t) := pg_sub ho hi hs (fun v => asg_sub hi' _ _)
mutual
theorem sndTg (ok : XOk P G n cl X) (hf : ∀ x, X.fn x = true) : ∀ {t : Tg} {e : Expr}, chkT X.N G X.env.scope t e = true → SndTg X cl (P.cfg n) t e
  | .nm i, e, h => by
    cases e <;> first | (simp [chkT] at h; done) | skip
    simp only [chkT, Bool.and_eq_true, decide_eq_true_eq] at h
    intro ρ vh env σ H Q w v env' vh' R E e V q
    cases e
    exact WG.of (pg_name ok.nd h.1 (loc_of h.2) (.inl (hf _))) (q _ _ _ Fr.rfl' R (E.set (List.getElem?_eq_some_iff.mp h.1).1 V))
  | .tp ts, e, h => by
    cases e <;> first | (simp [chkT] at h; done) | skip
    simp only [chkT] at h
    have ih := sndTgs ok hf h
    obtain ⟨s1, s2⟩ := tgs_star h
    obtain ⟨a1, a2⟩ := asg_plain X.env s1
    intro ρ vh env σ H Q w v env' vh' R E e V q
    cases w <;> first | (simp [asT] at e; done) | skip
    rename_i ws
    have e : asTs (P.cfg n) ts ws env vh = .ok env' vh' := e
    obtain ⟨p, xs, rfl, k1, k2⟩ := vr_tup.mp V
    exact WG.of (pg_tup ok.calm pWGs a1 a2) ⟨p, xs, rfl, k1, by rw [k2.length, asTs_len e, s2], ih ρ vh env σ H Q ws xs env' vh' R E e k2 q⟩
  | .sub o i, e, h => by
    cases e <;> first | (simp [chkT] at h; done) | skip
    simp only [chkT, Bool.and_eq_true] at h
    have i1 := (sndE o ok _ h.1.2).1
    have i2 := (sndE i ok _ h.2).1
    intro ρ vh env σ H Q w v env' vh' R E e V q
    obtain ⟨x, h1, e1, e2⟩ := bnd (show (evE (P.cfg n) o env vh).bind (fun x h1 => (evE (P.cfg n) i env h1).bind fun y h2 => (putW x y w h2).bind fun _ h3 => .ok env h3) = .ok env' vh' from e)
    obtain ⟨y, h2, e3, e4⟩ := bnd e2
    obtain ⟨_, h3, e5, e6⟩ := bnd e4
    cases e6
    refine WG.of (pg_sub' h.1.1 pWE pWE pWP) (snd2 i1 i2 R E e1 e3 fun ρ2 H2 ov iv F2 R2 V1 V2 => ?_)
    exact snd_put ok.units1 R2 V1 V2 (V.stay R F2) e5 fun ρ3 H3 F3 R3 => q _ _ _ (F2.trans F3) R3 ((E.stay R F2).stay R2 F3)
  | .att o f, e, h => by
    cases e <;> simp [chkT] at h
theorem sndTgs (ok : XOk P G n cl X) (hf : ∀ x, X.fn x = true) : ∀ {ts : List Tg} {es : List Expr}, chkTs X.N G X.env.scope ts es = true → SndTgs X cl (P.cfg n) ts es
  | [], es, h => by
    cases es with
    | cons _ _ => simp [chkTs] at h
    | nil =>
      intro ρ vh env σ H Q ws vs env' vh' R E e V q
      cases ws with
      | cons _ _ => simp [asTs] at e
      | nil =>
        cases e
        rw [V.nil_inv]
        exact WGs.of pgs_nil ⟨rfl, q _ _ _ Fr.rfl' R E⟩
  | t :: ts, es, h => by
    cases es with
    | nil => simp [chkTs] at h
    | cons e0 es =>
      simp only [chkTs, Bool.and_eq_true] at h
      have i1 := sndTg ok hf h.1.2
      have i2 := sndTgs ok hf h.2
      intro ρ vh env σ H Q ws vs env' vh' R E e V q
      cases ws with
      | nil => simp [asTs] at e
      | cons w ws =>
        obtain ⟨env1, h1, e1, e2⟩ := bnd (show (asT (P.cfg n) t w env vh).bind (fun e h1 => asTs (P.cfg n) ts ws e h1) = .ok env' vh' from e)
        obtain ⟨x, xs, rfl, v1, v2⟩ := V.uncons
        refine WGs.of (pgs_cons pWG pWGs (by rw [asg_cons h.1.1]; rfl)) ⟨x, xs, rfl, i1 ρ vh env σ H _ w x env1 h1 R E e1 v1 fun ρ1 H1 σ1 F1 R1 E1 => ?_⟩
        exact i2 ρ1 h1 env1 σ1 H1 _ ws xs env' vh' R1 E1 e2 (v2.stay R F1) fun ρ2 H2 σ2 F2 R2 E2 => q _ _ _ (F1.trans F2) R2 E2
end

/-! ### simple statements -/
theorem swaps_of {e : Expr} (h : notComp e = true) (t : Option Expr) (l : Nat) (env : PySem.Env) : swapsWith e t l env = pure false := by
  cases e <;> first | rfl | cases h
theorem snd_exS {me : Env → VH → R W} {e : Expr} {pos : Pos} (hc : notComp e = true) (he : SndE X cl me e) : SndS X cl (fun env h => (me env h).bind fun _ h1 => .ok (.nx, env) h1) (.Expr e pos) := by
  intro ρ vh env σ H D fl env' vh' R E e0 p
  obtain ⟨x, h1, e1, e2⟩ := bnd e0
  cases e2
  exact WS.of (ps_expr pWE (swaps_of hc _ _ _)) (he ρ vh env σ H _ x _ R E e1 fun ρ1 H1 v F1 R1 V1 => p _ _ _ F1 R1 (E.stay R F1))
theorem snd_ret0S {pos : Pos} : SndS X cl (fun env h => .ok (.rt .non, env) h) (.Return none pos) := by
  intro ρ vh env σ H D fl env' vh' R E e0 p
  cases e0
  exact WS.of ps_retN (p ρ H σ Fr.rfl' R E _ (vr_non.mpr rfl))
theorem snd_retS {me : Env → VH → R W} {e : Expr} {pos : Pos} (he : SndE X cl me e) : SndS X cl (fun env h => (me env h).bind fun x h1 => .ok (.rt x, env) h1) (.Return (some e) pos) := by
  intro ρ vh env σ H D fl env' vh' R E e0 p
  obtain ⟨x, h1, e1, e2⟩ := bnd e0
  cases e2
  exact WS.of (ps_ret pWE) (he ρ vh env σ H _ x _ R E e1 fun ρ1 H1 v F1 R1 V1 => p _ _ _ F1 R1 (E.stay R F1) _ V1)
theorem snd_ifS {mt : Env → VH → R Bool} {ma mb : Env → VH → R (Fl × Env)} {c : Expr} {a b : List Stmt} {pos : Pos} (hc : SndT X cl mt c) (ha : SndSs X cl ma a) (hb : SndSs X cl mb b) :
    SndS X cl (fun env h => (mt env h).bind fun k h1 => if k then ma env h1 else mb env h1) (.If c a b pos) := by
  intro ρ vh env σ H D fl env' vh' R E e0 p
  obtain ⟨k, h1, e1, e2⟩ := bnd e0
  refine WS.of (ps_if pWT pWSs pWSs) (hc ρ vh env σ H _ k h1 R E e1 fun ρ1 H1 F1 R1 => ?_)
  cases k with
  | true => exact ha ρ1 h1 env σ H1 D fl env' vh' R1 (E.stay R F1) e2 (p.from F1)
  | false => exact hb ρ1 h1 env σ H1 D fl env' vh' R1 (E.stay R F1) e2 (p.from F1)
theorem snd_nilSs : SndSs X cl (fun env h => .ok (.nx, env) h) [] := by
  intro ρ vh env σ H D fl env' vh' R E e0 p
  cases e0
  exact WSs.of pss_nil (p ρ H σ Fr.rfl' R E)
theorem snd_consSs {ms mr : Env → VH → R (Fl × Env)} {s : Stmt} {ss : List Stmt} (hs : SndS X cl ms s) (hr : SndSs X cl mr ss) :
    SndSs X cl (fun env h => (ms env h).bind fun r h1 => match r with | (.nx, e) => mr e h1 | r => .ok r h1) (s :: ss) := by
  intro ρ vh env σ H D fl env' vh' R E e0 p
  obtain ⟨⟨f1, env1⟩, h1, e1, e2⟩ := bnd e0
  refine WSs.of (pss_cons pWS pWSs) (hs ρ vh env σ H _ f1 env1 h1 R E e1 fun ρ1 H1 σ1 F1 R1 E1 => ?_)
  cases f1 with
  | nx => exact hr ρ1 h1 env1 σ1 H1 D fl env' vh' R1 E1 e2 (p.from F1)
  | rt w => cases e2; exact p _ _ _ F1 R1 E1
  | bk => cases e2; exact p _ _ _ F1 R1 E1
  | ct => cases e2; exact p _ _ _ F1 R1 E1
theorem snd_passS {pos : Pos} : SndS X cl (fun env h => .ok (.nx, env) h) (.Pass pos) := by
  intro ρ vh env σ H D fl env' vh' R E e0 p
  cases e0
  exact WS.of ps_pass (p ρ H σ Fr.rfl' R E)
theorem snd_brkS {pos : Pos} : SndS X cl (fun env h => .ok (.bk, env) h) (.Break pos) := by
  intro ρ vh env σ H D fl env' vh' R E e0 p
  cases e0
  exact WS.of ps_break (p ρ H σ Fr.rfl' R E)
theorem snd_contS {pos : Pos} : SndS X cl (fun env h => .ok (.ct, env) h) (.Continue pos) := by
  intro ρ vh env σ H D fl env' vh' R E e0 p
  cases e0
  exact WS.of ps_continue (p ρ H σ Fr.rfl' R E)

/-! ### op= -/
def WIp (X : Cx) (op : Operator) : TIp := fun x y H Q => ∀ (pins : List (Addr × Obj)) (s : Shared) (σ : L2.St) (v u : Value), Inv X pins σ H s → RelV x v → RelV y u → wpAny (model X.prog X.w) X.A (inplaceOp op v u) (EP X pins σ Q) X.xe s
theorem pWIp {op : Operator} : PIp X op (WIp X op) := fun pins s σ H x y v u Q I rx ry h => h pins s σ v u I rx ry
theorem WIp.of {op : Operator} {t : TIp} (h : PIp X op t) {x y : V} {H : Hp} {Q : VK} (q : t x y H Q) : WIp X op x y H Q := fun pins s σ v u I rx ry => h pins s σ H x y v u Q I rx ry q
theorem snd_aug {o : Bop} {o' : Operator} {ρ : List Addr} {vh vh' : VH} {H : Hp} {Q : VK} {w a b : W} {v u : V} (ho : bopB o o' = true) (R : Rel X.K cl ρ vh H) (ha : ValR X.K ρ H a v) (hb : ValR X.K ρ H b u) (e : augW o a b vh = .ok w vh') (p : Post X.K cl ρ H vh' w Q) : WIp X o' v u H Q := by
  unfold augW at e
  split at e
  · cases o' <;> first | (simp [bopB] at ho; done) | skip
    cases e
    rw [vr_int.mp ha, vr_int.mp hb]
    exact WIp.of ip_add ⟨_, _, rfl, rfl, p.at R (vr_int.mpr rfl)⟩
  · cases o' <;> first | (simp [bopB] at ho; done) | skip
    cases e
    rw [vr_int.mp ha, vr_int.mp hb]
    exact WIp.of ip_sub ⟨_, _, rfl, rfl, p.at R (vr_int.mpr rfl)⟩
  · cases e
theorem snd_augNS {me : Env → VH → R W} {i : Nat} {x : Str} {o : Bop} {o' : Operator} {e : Expr} {pos p2 : Pos} (ok : XOk P G n cl X) (hf : ∀ x, X.fn x = true) (hN : X.N[i]? = some x) (hl : locB X.env.scope x = true) (ho : bopB o o' = true) (he : SndE X cl me e) :
    SndS X cl (fun env h => (ok? (env i) h).bind fun x h0 => (me env h0).bind fun y h1 => (augW o x y h1).bind fun z h2 => .ok (.nx, setv env i z) h2) (.AugAssign (.Name x p2) o' e pos) := by
  intro ρ vh env σ H D fl env' vh' R E e0 p
  obtain ⟨x0, h0, e1, e2⟩ := bnd e0
  obtain ⟨y, h1, e3, e4⟩ := bnd e2
  obtain ⟨z, h2, e5, e6⟩ := bnd e4
  cases e6
  obtain ⟨e1', rfl⟩ := ok?_ok e1
  obtain ⟨v, hv1, hv2⟩ := E.2 i x0 e1'
  refine WS.of (ps_aug ok.nd hN (loc_of hl) pWE pWIp (.inl (hf _))) ⟨v, hv1, he ρ _ env σ H _ y h1 R E e3 fun ρ1 H1 u F1 R1 V1 => ?_⟩
  exact snd_aug ho R1 (hv2.stay R F1) V1 e5 fun ρ2 H2 zv F2 R2 V2 => p _ _ _ (F1.trans F2) R2 (((E.stay R F1).stay R1 F2).set (List.getElem?_eq_some_iff.mp hN).1 V2)
def WGt (X : Cx) : V → V → Hp → VK → Prop := fun o i H Q => ∀ (pins : List (Addr × Obj)) (s : Shared) (σ : L2.St) (ov iv : Value), Inv X pins σ H s → RelV o ov → RelV i iv → wpAny (model X.prog X.w) X.A (getItem ov iv) (EP X pins σ Q) X.xe s
theorem pWGt : PGet X (WGt X) := fun pins s σ H o i ov iv Q I r1 r2 h => h pins s σ ov iv I r1 r2
theorem get_list {p : Addr} {xs : List V} {i : Int} {z : V} {H : Hp} {Q : VK} (hq : SqL X.K H p xs) (he : atI xs i = some z) (q : Q z H) : WGt X (.ref p) (.int i) H Q := by
  intro pins s σ ov iv I rx ry
  cases rx
  obtain ⟨t, rfl⟩ := ry
  obtain ⟨its, r, pl, hz⟩ := I.list hq
  obtain ⟨j, h1, h2, h3, h4, h5⟩ := atI_get he
  obtain ⟨w, ew, rw'⟩ := r.get h2
  have hl := r.length
  have hn := line63
  have fin : EP X pins σ Q w s := ⟨z, H, I, rw', q⟩
  by_cases h0 : 0 ≤ i
  · have hj : i.toNat = j := by
      rw [seqIndex_of h0 h5] at h1
      exact Option.some.inj h1
    exact wpAny_getItem_list pl.isList h0 (by omega) (by rw [hj]; simpa using ew) fin
  · have hj : (i + (its.toArray.size : Int)).toNat = j := by
      rw [seqIndex_neg (by omega) h4] at h1
      rw [List.size_toArray, ← hl]
      exact Option.some.inj h1
    exact wpAny_getItem_list_neg pl.isList (by omega) (by rw [List.size_toArray] <;> omega) (by omega) (by rw [hj]; simpa using ew) fin
theorem snd_get (ok : XOk P G n cl X) {ρ : List Addr} {vh : VH} {H : Hp} {Q : VK} {w a b : W} {v u : V} (R : Rel X.K cl ρ vh H) (ha : ValR X.K ρ H a v) (hb : ValR X.K ρ H b u) (hr : ∃ r, a = .ref r) (e : ixW vh a b = some w) (q : ∀ z, ValR X.K ρ H w z → Q z H) : WGt X v u H Q := by
  obtain ⟨r, rfl⟩ := hr
  simp only [ixW] at e
  split at e
  · rename_i kvs hk
    obtain ⟨p, l, rfl, _, h3, h4⟩ := R.dct hk ha
    split at e
    · rename_i k hk2
      obtain ⟨z, hz, hzr⟩ := kvr_some h4 e
      intro pins s σ ov iv I rx ry
      cases rx
      rw [keyW_kV hk2 hb] at ry
      exact d_getItem ok.units1 I (by have := DGet.k (k := k) h3; rw [hz] at this; exact this) ry fun w' s' I' rw' => ⟨z, H, I', rw', q z hzr⟩
    · cases e
  · rename_i ws hk
    cases b <;> simp only at e <;> first | cases e | skip
    obtain ⟨p, xs, rfl, _, h3, h4⟩ := R.lst hk ha
    rw [vr_int.mp hb]
    obtain ⟨x, hx, hr⟩ := atI_of h4 e
    exact get_list (SqL.of h3) hx (q x hr)
  · cases e
theorem augS_of {i : Expr} (h : notSlice i = true) (ov iv new : Value) : augStore i ov iv new = (do holding [new, ov, iv] (setItem ov iv new); release [new, ov, iv] []; pure .next) := by
  cases i <;> first | rfl | cases h
theorem putW_ref {o i w : W} {h h' : VH} (e : putW o i w h = .ok () h') : ∃ r, o = .ref r := by
  cases o <;> first | (simp [putW] at e; done) | exact ⟨_, rfl⟩
theorem snd_augSS (ok : XOk P G n cl X) {mo mi me : Env → VH → R W} {o i e : Expr} {q : Bop} {q' : Operator} {tp pos : Pos} (hsl : notSlice i = true) (hq : bopB q q' = true) (ho : SndE X cl mo o) (hi : SndE X cl mi i) (he : SndE X cl me e) :
    SndS X cl (fun env h => (mo env h).bind fun x h1 => (mi env h1).bind fun y h2 => (ok? (ixW h2 x y) h2).bind fun old h3 =>
      (me env h3).bind fun w h4 => (augW q old w h4).bind fun z h5 => (putW x y z h5).bind fun _ h6 => .ok (.nx, env) h6) (.AugAssign (.Subscript o i tp) q' e pos) := by
  intro ρ vh env σ H D fl env' vh' R E e0 p
  obtain ⟨x, h1, e1, e2⟩ := bnd e0
  obtain ⟨y, h2, e3, e4⟩ := bnd e2
  obtain ⟨old, h3, e5, e6⟩ := bnd e4
  obtain ⟨w, h4, e7, e8⟩ := bnd e6
  obtain ⟨z, h5, e9, e10⟩ := bnd e8
  obtain ⟨_, h6, e11, e12⟩ := bnd e10
  cases e12
  obtain ⟨e5, rfl⟩ := ok?_ok e5
  refine WS.of (ps_augS pWE pWE pWGt pWE pWIp pWP (fun ov iv new => augS_of hsl _ _ _)) (snd2 ho hi R E e1 e3 fun ρ2 H2 ov iv F2 R2 V1 V2 => ?_)
  refine snd_get ok R2 V1 V2 (putW_ref e11) e5 fun oldv Vo => ?_
  refine he ρ2 _ env σ H2 _ w h4 R2 (E.stay R F2) e7 fun ρ3 H3 wv F3 R3 V3 => ?_
  refine snd_aug hq R3 (Vo.stay R2 F3) V3 e9 fun ρ4 H4 zv F4 R4 V4 => ?_
  refine snd_put ok.units1 R4 ((V1.stay R2 F3).stay R3 F4) ((V2.stay R2 F3).stay R3 F4) V4 e11 fun ρ5 H5 F5 R5 => ?_
  exact p _ _ _ (((F2.trans F3).trans F4).trans F5) R5 ((((E.stay R F2).stay R2 F3).stay R3 F4).stay R4 F5)

/-! ### loops -/
theorem snd_whS (hx : X.xe = fun _ _ => False) {mc : Env → VH → R Bool} {mb : Env → VH → R (Fl × Env)} {c : Expr} {b : List Stmt} {pos : Pos} {M : Nat} (hc : SndT X cl mc c) (hb : SndSs X cl mb b) : SndS X cl (fun env h => whRun mc mb M env h) (.While c b [] pos) := by
  intro ρ vh env σ H D fl env' vh' R E e0 p
  refine WS.of (ps_while (by rw [hx]; exact PassesOwn.never) pWT pWSs) ?_
  refine ⟨fun m σ1 H1 => ∃ ρ1 h1 env1, Fr ρ H ρ1 H1 ∧ Rel X.K cl ρ1 h1 H1 ∧ EnvR X.K X.N ρ1 H1 env1 σ1 ∧ whRun mc mb m env1 h1 = .ok (fl, env') vh', ⟨M, ρ, vh, env, Fr.rfl', R, E, e0⟩, ?_⟩
  rintro m σ1 H1 ⟨ρ1, h1, env1, F1, R1, E1, run⟩
  cases m with
  | zero => cases run
  | succ m =>
    obtain ⟨k, h2, e1, e2⟩ := bnd (show (mc env1 h1).bind _ = _ from run)
    refine hc ρ1 h1 env1 σ1 H1 _ k h2 R1 E1 e1 fun ρ2 H2 F2 R2 => ?_
    cases k with
    | false =>
      simp only [Bool.false_eq_true, if_false] at e2 ⊢
      cases e2
      exact p _ _ _ (F1.trans F2) R2 (E1.stay R1 F2)
    | true =>
      simp only [if_true] at e2 ⊢
      obtain ⟨⟨f1, env2⟩, h3, e3, e4⟩ := bnd e2
      refine ⟨_, fun _ _ h => h, hb ρ2 h2 env1 σ1 H2 _ f1 env2 h3 R2 (E1.stay R1 F2) e3 fun ρ3 H3 σ3 F3 R3 E3 => ?_⟩
      cases f1 with
      | nx => exact ⟨m, Nat.lt_succ_self m, ρ3, h3, env2, (F1.trans F2).trans F3, R3, E3, e4⟩
      | ct => exact ⟨m, Nat.lt_succ_self m, ρ3, h3, env2, (F1.trans F2).trans F3, R3, E3, e4⟩
      | bk => cases e4; exact p _ _ _ ((F1.trans F2).trans F3) R3 E3
      | rt w => cases e4; exact p _ _ _ ((F1.trans F2).trans F3) R3 E3
theorem snd_forS (ok : XOk P G n cl X) {t : TN} {mi : Env → VH → R Its} {mb : Env → VH → R (Fl × Env)} {tg it : Expr} {b : List Stmt} {pos : Pos} (hset : notSet it = true) (hi : SndI X cl mi tg it) (hg : SndG X cl t tg) (hb : SndSs X cl mb b) :
    SndS X cl (fun env h => (mi env h).bind fun its h2 => forRun its (fun w env h => match bindT t w env with | none => .bad | some e => mb e h) (itLen h2 its + 1) 0 env h2) (.For tg it b [] pos) := by
  intro ρ vh env σ H D fl env' vh' R E e0 p
  obtain ⟨its, h2, e1, e2⟩ := bnd e0
  refine WS.of (ps_for (by rw [ok.xe]; exact PassesOwn.never) ok.calm pWI pWG pWSs (fun x => notSet_of hset _ _)) ?_
  refine hi ρ vh env σ H _ its h2 R E e1 fun ρ1 H1 J F1 R1 I1 => ?_
  refine ⟨fun i m σ2 H2 => ∃ ρ2 hh env2, Fr ρ1 H1 ρ2 H2 ∧ Rel X.K cl ρ2 hh H2 ∧ EnvR X.K X.N ρ2 H2 env2 σ2 ∧ forRun its (fun w env h => match bindT t w env with | none => .bad | some e => mb e h) m i env2 hh = .ok (fl, env') vh', ⟨_, ρ1, h2, env, Fr.rfl', R1, E.stay R F1, e2⟩, ?_⟩
  rintro i m σ2 H2 ⟨ρ2, hh, env2, F2, R2, E2, run⟩
  cases m with
  | zero => cases run
  | succ m =>
    simp only [forRun] at run
    split at run
    · cases run
    · rename_i hit
      cases run
      exact .inl ⟨I1.stop ρ2 _ H2 i F2 R2 hit, p _ _ _ (F1.trans F2) R2 E2⟩
    · rename_i w hit
      refine .inr ⟨I1.go ρ2 _ H2 i w F2 R2 hit, _, fun _ _ h => h, fun x H3 y => ?_⟩
      obtain ⟨F3, R3, V3⟩ := I1.yld ρ2 _ H2 i w x H3 F2 R2 hit y
      obtain ⟨⟨f1, env4⟩, h4, e3, e4⟩ := bnd run
      split at e3
      · cases e3
      · rename_i env3 hbd
        refine hg ρ2 hh env2 σ2 H3 _ w x env3 R3 (E2.stay R2 F3) hbd V3 fun σ3 E3 _ => ?_
        refine hb ρ2 hh env3 σ3 H3 _ f1 env4 h4 R3 E3 e3 fun ρ5 H5 σ5 F5 R5 E5 => ?_
        have F := (F2.trans F3).trans F5
        cases f1 with
        | nx => exact ⟨m, Nat.lt_succ_self m, ρ5, h4, env4, F, R5, E5, e4⟩
        | ct => exact ⟨m, Nat.lt_succ_self m, ρ5, h4, env4, F, R5, E5, e4⟩
        | bk => cases e4; exact p _ _ _ (F1.trans F) R5 E5
        | rt w => cases e4; exact p _ _ _ (F1.trans F) R5 E5

/-! ### a store -/
theorem blockKind_of {env : PySem.Env} (h : env.scope.kind = .function) : env.blockKind = .function := by
  unfold PySem.Env.blockKind; rw [h]; rfl
theorem swp_of {env : PySem.Env} (h : env.scope.kind = .function) {ts vs : List Expr} {k k2 : Nat} {p p2 : Pos} {r : Option (List Str)} (e : swp env.scope ts vs = some r) : swappedStores [.Tuple ts k p] (.Tuple vs k2 p2) env = pure r := by
  have hb := blockKind_of h
  have hko : ∀ x, env.kindOf x = env.scope.names.lookup x := fun _ => rfl
  unfold swp at e
  unfold swappedStores
  simp only [hb, hko]
  have hbk : (ScopeKind.function != ScopeKind.function) = false := by decide
  rw [hbk, Bool.or_false]
  split at e
  · rename_i hc
    cases e
    rw [if_pos hc]
  · rename_i hc
    rw [if_neg hc]
    split at e
    · rename_i hc2
      cases e
      exact if_pos hc2
    · rename_i hc2
      refine (if_neg hc2).trans ?_
      simp only at e
      split at e
      · rename_i hc3
        cases e
        exact if_pos hc3
      · rename_i hc3
        refine (if_neg hc3).trans ?_
        split at e
        · rename_i hc4
          cases e
          exact if_pos hc4
        · rename_i hc4
          refine (if_neg hc4).trans ?_
          split at e
          · cases e
          · rename_i hc5
            cases e
            exact if_neg hc5

theorem lc_parts (ok : XOk P G n cl X) {elt : E} {own : List Nat} {tg : TN} {k : IK} {it cs : List E} {elt' tg' it' : Expr} {ifs' : List Expr} {a : Int} {scope : Scope} {pos : Pos}
    (h : chkE X.N G X.env.scope (.lc elt own tg k it cs) (.ListComp elt' [⟨tg', it', ifs', a⟩] scope pos) = true) :
    a = 0 ∧ BlkOk X.N X.env.scope scope (own.map fun i => ((X.N[i]?).getD Str.empty, i)) ∧ notSet it' = true ∧ SndI X cl (fun env vh => (evEs (P.cfg n) it env vh).bind fun ws h1 => itsOf k ws h1) tg' it' ∧
      (Blk X scope fun Y => SndG Y cl tg tg') ∧ tnIn own tg = true ∧ SndTs X cl scope (evTs (P.cfg n) cs) ifs' ∧ (Blk X scope fun Y => SndE Y cl (evE (P.cfg n) elt) elt') := by
  simp only [chkE, Bool.and_eq_true, decide_eq_true_eq] at h
  obtain ⟨⟨⟨⟨⟨⟨⟨⟨rfl, h1⟩, h2⟩, h3⟩, h4⟩, h5⟩, h6⟩, h7⟩, h8⟩ := h
  refine ⟨rfl, blkOk_by h3, h2, its_of ok (by
        cases hit : itArgs X.env.scope k it' with
        | none => rw [hit] at h5; cases h5
        | some es =>
          rw [hit] at h5
          exact sndEs it ok es h5), fun s H C clo fp => sndTN (P := P) (G := G) (n := n) (X := X.blk s H scope (compEnvC scope clo C X.env) fp) (ok.blk s H scope _ fp) locOk_blk h4, h1, ?_,
        fun s H C clo fp => (sndE elt (X := X.blk s H scope (compEnvC scope clo C X.env) fp) (ok.blk s H scope _ fp) elt' h8).1⟩
  match cs, ifs', h6, h7 with
  | [], [], _, _ => exact snd_ts0
  | [c], [c'], h6, _ =>
    simp only [chkEs, Bool.and_true, Bool.and_eq_true] at h6
    refine snd_ts1 fun s H C clo fp => ?_
    have ic := (sndE c (X := X.blk s H scope (compEnvC scope clo C X.env) fp) (ok.blk s H scope _ fp) c' h6.2).2
    refine SndT.congr (fun env vh => ?_) ic
    show ((evE _ c env vh).bind fun x h1 => ok? (truW h1 x) h1) = (evE _ c env vh).bind fun x h1 => (ok? (truW h1 x) h1).bind fun k h2 => if k then .ok true h2 else .ok false h2
    cases evE (P.cfg n) c env vh with
    | bad => rfl
    | ok x h1 =>
      show ok? (truW h1 x) h1 = (ok? (truW h1 x) h1).bind _
      cases truW h1 x with
      | none => rfl
      | some k => cases k <;> rfl
  | [], _ :: _, h6, _ => simp [chkEs] at h6
  | [_], [], h6, _ => simp [chkEs] at h6
  | [_], _ :: _ :: _, h6, _ => simp [chkEs] at h6
  | _ :: _ :: _, _, _, h7 => simp at h7
abbrev setM (C : Cfg) (t : Tg) (e : E) : Env → VH → R (Fl × Env) := fun env h => (evE C e env h).bind fun x h1 => (asT C t x env h1).bind fun env' h2 => .ok (.nx, env') h2
/-- by the value, then the store -/
theorem set_asg (ok : XOk P G n cl X) (hf : ∀ x, X.fn x = true) {t : Tg} {e : E} {t' e' : Expr} {pos : Pos} (hst : notStar t' = true) (he : SndE X cl (evE (P.cfg n) e) e') (ht : SndTg X cl (P.cfg n) t t')
    (hs : swapsWithSole [t'] e' pos.line X.env = pure false) (hw : swappedStores [t'] e' X.env = pure none) : SndS X cl (setM (P.cfg n) t e) (.Assign [t'] e' pos) := by
  intro ρ vh env σ H D fl env' vh' R E e0 p
  obtain ⟨x, h1, e1, e2⟩ := bnd e0
  obtain ⟨env1, h2, e3, e4⟩ := bnd e2
  cases e4
  refine WS.of (ps_asg pWE pWG hs hw (by rw [asg_cons hst]; rfl)) (he ρ vh env σ H _ x h1 R E e1 fun ρ1 H1 v F1 R1 V1 => ?_)
  exact ht ρ1 h1 env σ H1 _ x v env' _ R1 (E.stay R F1) e3 V1 fun ρ2 H2 σ2 F2 R2 E2 => p _ _ _ (F1.trans F2) R2 E2
theorem set_name (ok : XOk P G n cl X) (hf : ∀ x, X.fn x = true) {i : Nat} {y : Str} {e : E} {e' : Expr} {py pos : Pos} (hN : X.N[i]? = some y) (hl : locB X.env.scope y = true) (he : SndE X cl (evE (P.cfg n) e) e')
    (hs : swapsWith e' (some (.Name y py)) pos.line X.env = pure false) : SndS X cl (setM (P.cfg n) (.nm i) e) (.Assign [.Name y py] e' pos) := by
  intro ρ vh env σ H D fl env' vh' R E e0 p
  obtain ⟨x, h1, e1, e2⟩ := bnd e0
  obtain ⟨env1, h2, e3, e4⟩ := bnd e2
  cases e4; cases e3
  exact WS.of (ps_set ok.nd hN (loc_of hl) pWE hs (.inl (hf _))) (he ρ vh env σ H _ x _ R E e1 fun ρ1 H1 v F1 R1 V1 => p _ _ _ F1 R1 ((E.stay R F1).set (List.getElem?_eq_some_iff.mp hN).1 V1))
theorem notComp_of {e : Expr} (h1 : ∀ a b c d, e ≠ .ListComp a b c d) (h2 : ∀ a b c d, e ≠ .SetComp a b c d) (h3 : ∀ a b c d f, e ≠ .DictComp a b c d f) : notComp e = true := by
  cases e <;> first | rfl | exact absurd rfl (h1 _ _ _ _) | exact absurd rfl (h2 _ _ _ _) | exact absurd rfl (h3 _ _ _ _ _)
theorem set_lc (ok : XOk P G n cl X) (hf : ∀ x, X.fn x = true) (hk : X.env.scope.kind = .function) {i : Nat} {y : Str} {e : E} {elt' : Expr} {gens : List Comprehension} {scope : Scope} {py pos p2 : Pos} (hN : X.N[i]? = some y) (hl : locB X.env.scope y = true)
    (hc : chkE X.N G X.env.scope e (.ListComp elt' gens scope p2) = true) : SndS X cl (setM (P.cfg n) (.nm i) e) (.Assign [.Name y py] (.ListComp elt' gens scope p2) pos) := by
  have he := (sndE e ok _ hc).1
  have hsw : swapsWith (.ListComp elt' gens scope p2) (some (.Name y py)) pos.line X.env = pure (X.env.blockKind == .function && X.env.kindOf y == some .local && py.line == p2.line && !(scope.names.any fun (n, k) => n == y && (k == .local || k == .cell))) := rfl
  cases hb : (X.env.blockKind == .function && X.env.kindOf y == some .local && py.line == p2.line && !(scope.names.any fun (n, k) => n == y && (k == .local || k == .cell))) with
  | false =>
    rw [hb] at hsw
    exact set_name ok hf hN hl he hsw
  | true =>
    rw [hb] at hsw
    have hloc : X.env.scope.names.lookup y = some .local := by
      simp only [Bool.and_eq_true] at hb
      exact beq_iff_eq.mp hb.1.1.2
    cases e <;> first | (simp [chkE] at hc; done) | skip
    · simp [chkE, cstB] at hc
    rename_i elt own tg k it cs
    match gens, hc with
    | [⟨tg', it', ifs', a⟩], hc =>
      obtain ⟨rfl, hblk, hset, hi, hg, hin, ⟨tt, pt, qt⟩, hE⟩ := lc_parts ok hc
      intro ρ vh env σ H D fl env' vh' R E e0 p
      obtain ⟨x, h1, e1, e2⟩ := bnd e0
      obtain ⟨env1, h2, e3, e4⟩ := bnd e2
      cases e4; cases e3
      refine WS.of (ps_setLc ok.calm ok.nd hN hloc hsw pWI hblk pbTG pt pbTE (fun x => notSet_of hset _ _)) ?_
      have hown : (own.map fun i => ((X.N[i]?).getD Str.empty, i)).map (·.2) = own := by simp [List.map_map, Function.comp_def]
      rw [hown]
      refine lc_read (ifs := ifs') hi hg hin qt hE R E (w := x) (vh' := vh') ?_ fun ρ1 H1 v F1 R1 V1 => p _ _ _ F1 R1 ((E.stay R F1).set (List.getElem?_eq_some_iff.mp hN).1 V1)
      rw [← e1]
      show ((evEs _ it env vh).bind fun ws h1 => itsOf k ws h1).bind _ = (evEs _ it env vh).bind _
      cases evEs (P.cfg n) it env vh <;> rfl
    | [], hc => exact absurd hc (by simp [chkE])
    | _ :: _ :: _, hc => exact absurd hc (by simp [chkE])
theorem nodup_ne {N : List Str} {i j : Nat} {x y : Str} (hi : N[i]? = some x) (hj : N[j]? = some y) (h : x ≠ y) : i ≠ j := fun e => by
  subst e; rw [hi] at hj; cases hj; exact h rfl
theorem set_par2 (ok : XOk P G n cl X) {i j : Nat} {x y : Str} {a b : E} {a' b' : Expr} {px py pt pos : Pos} {kt k2 : Nat} {p2 : Pos} (hi : X.N[i]? = some x) (hj : X.N[j]? = some y) (hx : X.env.scope.names.lookup x = some .local) (hy : X.env.scope.names.lookup y = some .local) (hne : x ≠ y)
    (hw : swappedStores [.Tuple [.Name x px, .Name y py] kt pt] (.Tuple [a', b'] k2 p2) X.env = pure (some [x, y])) (ha : AllS X cl (P.cfg n) [a, b] [a', b']) :
    SndS X cl (setM (P.cfg n) (.tp [.nm i, .nm j]) (.tup [a, b])) (.Assign [.Tuple [.Name x px, .Name y py] kt pt] (.Tuple [a', b'] k2 p2) pos) := by
  intro ρ vh env σ H D fl env' vh' R E e0 p
  obtain ⟨w, h1, e1, e2⟩ := bnd e0
  obtain ⟨env1, h2, e3, e4⟩ := bnd e2
  cases e4
  obtain ⟨ws, h3, e5, e6⟩ := bnd (show (evEs (P.cfg n) [a, b] env vh).bind (fun ws h1 => if ws.length ≤ line then .ok (.tup ws) h1 else .bad) = .ok w h1 from e1)
  split at e6
  · cases e6
    have hl : ws.length = 2 := evEs_len e5
    match ws, hl with
    | [w1, w2], _ =>
      cases e3
      refine WS.of (ps_par ok.calm ok.nd hi hj (nodup_ne hi hj hne) hx hy pWA hw rfl) (ha.a.1 ρ vh env σ H _ _ _ R E e5 fun ρ1 H1 vs F1 R1 V1 => ?_)
      obtain ⟨v1, r1, rfl, q1, q2⟩ := V1.uncons
      obtain ⟨v2, r2, rfl, q3, q4⟩ := q2.uncons
      cases q4.nil_inv
      exact ⟨v1, v2, rfl, p _ _ _ F1 R1 (((E.stay R F1).set (List.getElem?_eq_some_iff.mp hi).1 q1).set (List.getElem?_eq_some_iff.mp hj).1 q3)⟩
  · cases e6
theorem set_par3 (ok : XOk P G n cl X) {i j l : Nat} {x y z : Str} {a b c : E} {a' b' c' : Expr} {px py pz pt pos : Pos} {kt k2 : Nat} {p2 : Pos} (hi : X.N[i]? = some x) (hj : X.N[j]? = some y) (hl' : X.N[l]? = some z) (hx : X.env.scope.names.lookup x = some .local) (hy : X.env.scope.names.lookup y = some .local)
    (hz : X.env.scope.names.lookup z = some .local) (h1' : x ≠ y) (h2' : x ≠ z) (h3' : y ≠ z)
    (hw : swappedStores [.Tuple [.Name x px, .Name y py, .Name z pz] kt pt] (.Tuple [a', b', c'] k2 p2) X.env = pure (some [x, y, z])) (ha : AllS X cl (P.cfg n) [a, b, c] [a', b', c']) :
    SndS X cl (setM (P.cfg n) (.tp [.nm i, .nm j, .nm l]) (.tup [a, b, c])) (.Assign [.Tuple [.Name x px, .Name y py, .Name z pz] kt pt] (.Tuple [a', b', c'] k2 p2) pos) := by
  intro ρ vh env σ H D fl env' vh' R E e0 p
  obtain ⟨w, h1, e1, e2⟩ := bnd e0
  obtain ⟨env1, h2, e3, e4⟩ := bnd e2
  cases e4
  obtain ⟨ws, h3, e5, e6⟩ := bnd (show (evEs (P.cfg n) [a, b, c] env vh).bind (fun ws h1 => if ws.length ≤ line then .ok (.tup ws) h1 else .bad) = .ok w h1 from e1)
  split at e6
  · cases e6
    have hl : ws.length = 3 := evEs_len e5
    match ws, hl with
    | [w1, w2, w3], _ =>
      cases e3
      refine WS.of (ps_par3 ok.calm ok.nd hi hj hl' (nodup_ne hi hj h1') (nodup_ne hi hl' h2') (nodup_ne hj hl' h3') hx hy hz pWA hw rfl) (ha.a.1 ρ vh env σ H _ _ _ R E e5 fun ρ1 H1 vs F1 R1 V1 => ?_)
      obtain ⟨v1, r1, rfl, q1, q2⟩ := V1.uncons
      obtain ⟨v2, r2, rfl, q3, q4⟩ := q2.uncons
      obtain ⟨v3, r3, rfl, q5, q6⟩ := q4.uncons
      cases q6.nil_inv
      exact ⟨v1, v2, v3, rfl, p _ _ _ F1 R1 ((((E.stay R F1).set (List.getElem?_eq_some_iff.mp hi).1 q1).set (List.getElem?_eq_some_iff.mp hj).1 q3).set (List.getElem?_eq_some_iff.mp hl').1 q5)⟩
  · cases e6
end
end Nw

set_option Elab.async false
set_option linter.all false
set_option maxRecDepth 100000
set_option maxHeartbeats 4000000
/-! Nw, part J: all statements; defs; the law. -/
namespace Nw
open PySem PySem.Spec PyProof.Rows L2
section
variable {P : Prog} {G : GN} {n : Nat} {cl : Nat → Option Addr} {X : Cx}
theorem SndS.congr {m m' : Env → VH → R (Fl × Env)} {st : Stmt} (h : ∀ env vh, m env vh = m' env vh) (q : SndS X cl m st) : SndS X cl m' st := fun ρ vh env σ H D fl env' vh' R E e1 p => q ρ vh env σ H D fl env' vh' R E ((h _ _).trans e1) p
theorem sndSet (ok : XOk P G n cl X) (hf : ∀ x, X.fn x = true) (hk : X.env.scope.kind = .function) {t : Tg} {e : E} {t' e' : Expr} {pos : Pos} (hst : notStar t' = true) (hs : setB X.env.scope t' e' = true) (he : chkE X.N G X.env.scope e e' = true) (ht : chkT X.N G X.env.scope t t' = true) :
    SndS X cl (setM (P.cfg n) t e) (.Assign [t'] e' pos) := by
  have i1 := (sndE e ok _ he).1
  have i2 := sndTg ok hf ht
  cases t' <;> first | (cases t <;> simp [chkT] at ht; done) | skip
  · -- a subscript
    refine set_asg ok hf hst i1 i2 ?_ ?_
    · cases e' <;> first | rfl | (simp [setB] at hs)
    · cases e' <;> rfl
  · -- a name
    rename_i y py
    cases t <;> first | (simp [chkT] at ht; done) | skip
    simp only [chkT, Bool.and_eq_true, decide_eq_true_eq] at ht
    cases e' <;> first | (refine set_name ok hf ht.1 ht.2 i1 (swaps_of rfl _ _ _); done) | (simp [setB] at hs; done) | skip
    exact set_lc ok hf hk ht.1 ht.2 he
  · -- names in brackets
    rename_i ts kt pt
    cases e' <;> first | (refine set_asg ok hf hst i1 i2 rfl rfl; done) | (simp [setB] at hs; done) | skip
    rename_i vs k2 p2
    have hs : tupB X.env.scope ts vs = true := hs
    unfold tupB at hs
    split at hs
    · rename_i h
      exact set_asg ok hf hst i1 i2 rfl (swp_of hk h)
    · rename_i x y h
      have hw := swp_of (k := kt) (k2 := k2) (p := pt) (p2 := p2) hk h
      unfold par2B at hs
      split at hs
      · simp only [Bool.and_eq_true, decide_eq_true_eq] at hs
        obtain ⟨⟨⟨⟨rfl, rfl⟩, hx⟩, hy⟩, hne⟩ := hs
        cases t <;> first | (simp [chkT] at ht; done) | skip
        rename_i tts
        match tts, ht with
        | [.nm i, .nm j], ht =>
          simp only [chkT, chkTs, Bool.and_eq_true, decide_eq_true_eq, Bool.and_true] at ht
          cases e <;> first | (simp [chkE] at he; done) | skip
          · simp [chkE, cstB] at he
          rename_i es
          simp only [chkE] at he
          have ih := sndEs es ok _ he
          match es, ih with
          | [a, b], ih => exact set_par2 ok ht.1.2.1 ht.2.2.1 hx hy hne hw ih
          | [], ih => exact ih.elim
          | [_], ih => exact ih.2.2.2.elim
          | _ :: _ :: _ :: _, ih => exact ih.2.2.2.2.2.2.elim
        | [], ht => simp [chkT, chkTs] at ht
        | [_], ht => simp [chkT, chkTs] at ht
        | _ :: _ :: _ :: _, ht => simp [chkT, chkTs] at ht
        | [.tp _, _], ht => simp [chkT, chkTs] at ht
        | [.sub _ _, _], ht => simp [chkT, chkTs] at ht
        | [.att _ _, _], ht => simp [chkT, chkTs] at ht
        | [.nm _, .tp _], ht => simp [chkT, chkTs] at ht
        | [.nm _, .sub _ _], ht => simp [chkT, chkTs] at ht
        | [.nm _, .att _ _], ht => simp [chkT, chkTs] at ht
      · cases hs
    · rename_i x y z h
      have hw := swp_of (k := kt) (k2 := k2) (p := pt) (p2 := p2) hk h
      unfold par3B at hs
      split at hs
      · simp only [Bool.and_eq_true, decide_eq_true_eq] at hs
        obtain ⟨⟨⟨⟨⟨⟨⟨⟨rfl, rfl⟩, rfl⟩, hx⟩, hy⟩, hz⟩, h1⟩, h2⟩, h3⟩ := hs
        cases t <;> first | (simp [chkT] at ht; done) | skip
        rename_i tts
        match tts, ht with
        | [.nm i, .nm j, .nm l], ht =>
          simp only [chkT, chkTs, Bool.and_eq_true, decide_eq_true_eq, Bool.and_true] at ht
          cases e <;> first | (simp [chkE] at he; done) | skip
          · simp [chkE, cstB] at he
          rename_i es
          simp only [chkE] at he
          have ih := sndEs es ok _ he
          match es, ih with
          | [a, b, c], ih => exact set_par3 ok ht.1.2.1 ht.2.1.2.1 ht.2.2.2.1 hx hy hz h1 h2 h3 hw ih
          | [], ih => exact ih.elim
          | [_], ih => exact ih.2.2.2.elim
          | [_, _], ih => exact ih.2.2.2.2.2.2.elim
          | _ :: _ :: _ :: _ :: _, ih => exact ih.2.2.2.2.2.2.2.2.2.elim
        | [], ht => simp [chkT, chkTs] at ht
        | [_], ht => simp [chkT, chkTs] at ht
        | [_, _], ht => simp [chkT, chkTs] at ht
        | _ :: _ :: _ :: _ :: _, ht => simp [chkT, chkTs] at ht
        | [.tp _, _, _], ht => simp [chkT, chkTs] at ht
        | [.sub _ _, _, _], ht => simp [chkT, chkTs] at ht
        | [.att _ _, _, _], ht => simp [chkT, chkTs] at ht
        | [.nm _, .tp _, _], ht => simp [chkT, chkTs] at ht
        | [.nm _, .sub _ _, _], ht => simp [chkT, chkTs] at ht
        | [.nm _, .att _ _, _], ht => simp [chkT, chkTs] at ht
        | [.nm _, .nm _, .tp _], ht => simp [chkT, chkTs] at ht
        | [.nm _, .nm _, .sub _ _], ht => simp [chkT, chkTs] at ht
        | [.nm _, .nm _, .att _ _], ht => simp [chkT, chkTs] at ht
      · cases hs
    · cases hs
mutual
theorem sndS (ok : XOk P G n cl X) (hf : ∀ x, X.fn x = true) (hk : X.env.scope.kind = .function) : ∀ (a : Sm) (s : Stmt), chkS X.N G X.env.scope a s = true → SndS X cl (evS (P.cfg n) a) s
  | .ex e, s, h => by
    cases s <;> first | (simp [chkS] at h; done) | skip
    simp only [chkS, Bool.and_eq_true] at h
    exact snd_exS h.1 (sndE e ok _ h.2).1
  | .set t e, s, h => by
    cases s <;> first | (simp [chkS] at h; done) | skip
    rename_i tgs v pos
    match tgs, h with
    | [t'], h =>
      simp only [chkS, Bool.and_eq_true] at h
      exact sndSet ok hf hk h.1.1.1 h.1.1.2 h.1.2 h.2
    | [], h => exact absurd h (by simp [chkS])
    | _ :: _ :: _, h => exact absurd h (by simp [chkS])
  | .augN i o e, s, h => by
    cases s <;> first | (simp [chkS] at h; done) | skip
    rename_i tg op v pos
    cases tg <;> first | (simp [chkS] at h; done) | skip
    simp only [chkS, Bool.and_eq_true, decide_eq_true_eq] at h
    exact snd_augNS ok hf h.1.1.1 h.1.1.2 h.1.2 (sndE e ok _ h.2).1
  | .augS o i p e, s, h => by
    cases s <;> first | (simp [chkS] at h; done) | skip
    rename_i tg op v pos
    cases tg <;> first | (simp [chkS] at h; done) | skip
    simp only [chkS, Bool.and_eq_true] at h
    exact snd_augSS ok h.1.1.1.1 h.1.1.1.2 (sndE o ok _ h.1.1.2).1 (sndE i ok _ h.1.2).1 (sndE e ok _ h.2).1
  | .augA o f p e, s, h => by
    exact absurd h (by cases s <;> simp [chkS])
  | .ret none, s, h => by
    cases s <;> first | (simp [chkS] at h; done) | skip
    rename_i v pos
    cases v with
    | none => exact snd_ret0S
    | some _ => simp [chkS] at h
  | .ret (some e), s, h => by
    cases s <;> first | (simp [chkS] at h; done) | skip
    rename_i v pos
    cases v with
    | none => simp [chkS] at h
    | some e' =>
      simp only [chkS] at h
      exact snd_retS (sndE e ok _ h).1
  | .ife c a b, s, h => by
    cases s <;> first | (simp [chkS] at h; done) | skip
    simp only [chkS, Bool.and_eq_true] at h
    exact snd_ifS (sndE c ok _ h.1.1).2 (sndSs ok hf hk a _ h.1.2) (sndSs ok hf hk b _ h.2)
  | .whl c b, s, h => by
    cases s <;> first | (simp [chkS] at h; done) | skip
    rename_i c' b' o' pos
    cases o' <;> first | (simp [chkS] at h; done) | skip
    simp only [chkS, Bool.and_eq_true] at h
    exact snd_whS ok.xe (sndE c ok _ h.1).2 (sndSs ok hf hk b _ h.2)
  | .for t k it b, s, h => by
    cases s <;> first | (simp [chkS] at h; done) | skip
    rename_i t' it' b' o' pos
    cases o' <;> first | (simp [chkS] at h; done) | skip
    simp only [chkS, Bool.and_eq_true] at h
    obtain ⟨⟨⟨h0, h1⟩, h2⟩, h3⟩ := h
    have hi : SndI X cl (fun env vh => (evEs (P.cfg n) it env vh).bind fun ws h1 => itsOf k ws h1) t' it' := its_of ok (by
        cases hit : itArgs X.env.scope k it' with
        | none => rw [hit] at h2; cases h2
        | some es =>
          rw [hit] at h2
          exact sndEs it ok es h2)
    have hl : LocOk X (locB X.env.scope) := fun x hx => ⟨loc_of hx, .inl (hf x)⟩
    refine .congr (fun env vh => ?_) (snd_forS ok h0 hi (sndTN ok hl h1) (sndSs ok hf hk b _ h3))
    show ((evEs _ it env vh).bind fun ws h1 => itsOf k ws h1).bind _ = (evEs _ it env vh).bind _
    cases evEs (P.cfg n) it env vh <;> rfl
  | .pass, s, h => by
    cases s <;> first | (simp [chkS] at h; done) | skip
    exact snd_passS
  | .brk, s, h => by
    cases s <;> first | (simp [chkS] at h; done) | skip
    exact snd_brkS
  | .cont, s, h => by
    cases s <;> first | (simp [chkS] at h; done) | skip
    exact snd_contS
theorem sndSs (ok : XOk P G n cl X) (hf : ∀ x, X.fn x = true) (hk : X.env.scope.kind = .function) : ∀ (a : List Sm) (s : List Stmt), chkSs X.N G X.env.scope a s = true → SndSs X cl (evSs (P.cfg n) a) s
  | [], s, h => by
    cases s with
    | nil => exact snd_nilSs
    | cons _ _ => simp [chkSs] at h
  | a :: as, s, h => by
    cases s with
    | nil => simp [chkSs] at h
    | cons s ss =>
      simp only [chkSs, Bool.and_eq_true] at h
      exact snd_consSs (sndS ok hf hk a s h.1) (sndSs ok hf hk as ss h.2)
end
end

/-! ### defs -/
structure DefI where
  name : Str
  st : Stmt
  N : List Str
  ps : List Str
def scopeB (N ps : List Str) (sc : Scope) : Bool :=
  (match sc.kind with | .function => true | _ => false) && !sc.isCoroutine && !sc.isGenerator && decide N.Nodup && decide (N.take ps.length = ps) && ps.all (locB sc) && sc.names.all fun y => decide (y.2 ≠ .free)
theorem scope_of {N ps : List Str} {sc : Scope} (h : scopeB N ps sc = true) : FnScope N ps sc := by
  unfold scopeB at h
  simp only [Bool.and_eq_true, Bool.not_eq_true', decide_eq_true_eq, List.all_eq_true] at h
  obtain ⟨⟨⟨⟨⟨⟨h1, h2⟩, h3⟩, h4⟩, h5⟩, h6⟩, h7⟩ := h
  refine ⟨?_, h2, h3, h4, h5, fun x hx => loc_of (h6 x hx), fun y hy => h7 y hy⟩
  split at h1
  · assumption
  · cases h1
/-- the text of a def is the evaluator's def -/
def defB (G : GN) (d : DefI) (f : Fn) : Bool := scopeB d.N d.ps (defScope d.st) && decide (f.ps = d.ps.length) && chkSs d.N G (defScope d.st) f.body (defBody d.st)
def defsB (G : GN) : List DefI → List Fn → Bool
  | [], [] => true
  | d :: ds, f :: fs => defB G d f && defsB G ds fs
  | _, _ => false
theorem defsB_at {G : GN} : ∀ {ds : List DefI} {fs : List Fn} {i : Nat} {d : DefI}, defsB G ds fs = true → ds[i]? = some d → ∃ f, fs[i]? = some f ∧ defB G d f = true
  | [], _, i, d, _, h => by simp at h
  | d :: ds, f :: fs, 0, _, h, e => by
    simp at e; subst e
    simp only [defsB, Bool.and_eq_true] at h
    exact ⟨f, rfl, h.1⟩
  | d :: ds, f :: fs, i + 1, _, h, e => by
    simp only [defsB, Bool.and_eq_true] at h
    obtain ⟨g, h1, h2⟩ := defsB_at h.2 (by simpa using e)
    exact ⟨g, by simpa using h1, h2⟩
  | _ :: _, [], _, _, h, _ => by simp [defsB] at h
/-- what the top has left -/
structure Top (P : Prog) (ds : List DefI) (K : PySem.W.Frag) (mg : Str → Option Value) : Prop where
  fn : ∀ (i : Nat) (d : DefI), ds[i]? = some d → ∃ a fd, mg d.name = some (.ref a) ∧ Fun K d.name d.name d.st a fd ∧ Binds K fd d.ps []
  blt : ∀ x ∈ bltNames, mg x = none
  glb : ∀ x w, P.glob x = some w → ∃ u v, mg x = some u ∧ RelV v u ∧ ∀ ρ H, ValR K ρ H w v
  meth : ∀ c m, P.meth c m = none
theorem env0_rel {K : PySem.W.Frag} {N : List Str} {ρ : List Addr} {H : Hp} {ws : List W} {vs : List V} (h : ValsR K ρ H ws vs) (hl : vs.length ≤ N.length) : EnvR K N ρ H (env0 ws) (L2.start N vs) := by
  refine ⟨?_, fun i w e => ?_⟩
  · unfold L2.start
    rw [List.length_append, List.length_map, List.length_replicate]
    omega
  · obtain ⟨v, h1, h2⟩ := h.get (show ws[i]? = some w from e)
    refine ⟨v, ?_, h2⟩
    unfold L2.start
    rw [List.getElem?_append_left (by rw [List.length_map]; exact (List.getElem?_eq_some_iff.mp h1).1), List.getElem?_map, h1]
    rfl
theorem all_fns {P : Prog} {ds : List DefI} {K : PySem.W.Frag} {mg : Str → Option Value} {cl : Nat → Option Addr} {prog : Program} {w : World} {base : Heap} (T : Top P ds K mg) (hd : defsB ⟨ds.map (·.name)⟩ ds P.fns = true) :
    ∀ (n i : Nat) (d : DefI), ds[i]? = some d → ∃ a fd, mg d.name = some (.ref a) ∧ Fun K d.name d.name d.st a fd ∧ Binds K fd d.ps [] ∧ FnOk prog w K mg base CX0 n a fd d.ps (spF P n i K cl)
  | 0, i, d, h => by
    obtain ⟨a, fd, h1, h2, h3⟩ := T.fn i d h
    refine ⟨a, fd, h1, h2, h3, fun vs H Q E q => ?_, fun A outer s H args us vs Q E _ _ _ _ q => ?_⟩
    · obtain ⟨_, _, _, _, _, _, _, e, _⟩ := q
      cases e
    · obtain ⟨_, _, _, _, _, _, _, e, _⟩ := q
      cases e
  | n + 1, i, d, h => by
    have ih := all_fns (prog := prog) (w := w) (base := base) (cl := cl) T hd n
    obtain ⟨a, fd, h1, h2, h3⟩ := T.fn i d h
    obtain ⟨f, hf, hb⟩ := defsB_at hd h
    simp only [defB, Bool.and_eq_true, decide_eq_true_eq] at hb
    obtain ⟨⟨b1, b2⟩, b3⟩ := hb
    have S := scope_of b1
    have call_eq : ∀ ws vh, P.call (n + 1) i ws vh = runFn (P.cfg n) f ws vh := fun ws vh => by
      show (match P.fns[i]? with | some d => runFn _ d ws vh | none => .bad) = _
      rw [hf]
    refine ⟨a, fd, h1, h2, h3, h2.ok S (fun vs H Q E q => ?_) (fun cdv A outer s H vs Q E hr q => ?_)⟩
    · obtain ⟨ρ, vh, ws, w', vh', R, V, e, p⟩ := q
      rw [call_eq] at e
      unfold runFn at e
      split at e
      · rename_i hl
        rw [V.length, hl, b2]
      · cases e
    · obtain ⟨ρ, vh, ws, w', vh', R, V, e, p⟩ := q
      rw [call_eq] at e
      unfold runFn at e
      split at e
      · rename_i hl
        obtain ⟨⟨fl, env'⟩, h2', e1, e2⟩ := bnd e
        have ok : XOk P ⟨ds.map (·.name)⟩ n cl (cxOf CX0 prog w K mg base d.N d.name (defScope d.st) a cdv A outer s H E).nox := by
          refine ⟨rfl, S.nd, hr, rfl, fun g x hg => ?_, T.blt, T.glb, T.meth⟩
          rw [List.getElem?_map] at hg
          cases hd' : ds[g]? with
          | none => rw [hd'] at hg; cases hg
          | some d' =>
            rw [hd'] at hg
            cases hg
            obtain ⟨a', fd', q1, q2, q3, q4⟩ := ih g d' hd'
            exact ⟨a', fd', d'.ps, q1, q2.kp, q3, q4⟩
        have ss := sndSs (X := (cxOf CX0 prog w K mg base d.N d.name (defScope d.st) a cdv A outer s H E).nox) ok (fun _ => rfl) S.kind f.body (defBody d.st) b3
        refine ⟨_, pWSs, ss ρ vh (env0 ws) (L2.start d.N vs) H _ fl env' h2' R (env0_rel V ?_) e1 fun ρ' H' σ' F' R' E' => ?_⟩
        · show vs.length ≤ d.N.length
          rw [V.length, hl, b2]
          have := congrArg List.length S.pre
          rw [List.length_take] at this
          omega
        · cases fl with
          | nx => cases e2; exact p _ _ _ F' R' (vr_non.mpr rfl)
          | rt wv => cases e2; exact fun v hv => p _ _ _ F' R' hv
          | bk => cases e2
          | ct => cases e2
      · cases e

theorem fun_inj {K : PySem.W.Frag} {x q x' q' : Str} {st st' : Stmt} {f : Addr} {fd fd' : FuncData} (h : Fun K x q st f fd) (h' : Fun K x' q' st' f fd') : fd = fd' := by
  obtain ⟨_, _, _, _, _, _, _, _, _, _, e, _⟩ := h.ex
  obtain ⟨_, _, _, _, _, _, _, _, _, _, e', _⟩ := h'.ex
  rw [e] at e'
  cases e'
  rfl
/-! ### the law -/
def spLaw (K : PySem.W.Frag) : Sp := fun vs H Q _ => ∃ (a : Addr) (ns : List Int), vs = [.ref a] ∧ SqL K H a (ns.map V.int) ∧ Only H ∧ ns.length ≤ 63 ∧ ∀ H', Q (.bl true) H'
theorem rol_of {K : PySem.W.Frag} {H : Hp} {a : Addr} {xs : List V} (h : SqL K H a xs) (o : Only H) : RoL K H a xs := by
  rcases h with (h | ⟨ob, h⟩) | h
  · rcases o a with z | ⟨_, _, z⟩
    · rw [h] at z; cases z
    · rw [h] at z; cases z
  · exact .inl ⟨ob, h⟩
  · exact .inr h
theorem vals_of_ints' {K : PySem.W.Frag} {ρ : List Addr} {H : Hp} : ∀ ns : List Int, ValsR K ρ H (ns.map W.int) (ns.map V.int)
  | [] => .nil
  | i :: ns => .cons (vr_int.mpr rfl) (vals_of_ints' ns)
theorem law_fn {P : Prog} {n i : Nat} {prog : Program} {w : World} {K : PySem.W.Frag} {mg : Str → Option Value} {base : Heap} {a : Addr} {fd : FuncData} {ps : List Str}
    (F : FnOk prog w K mg base CX0 n a fd ps (spF P n i K fun _ => none)) (L : ∀ ns : List Int, ns.length ≤ 63 → ∃ h, P.call n i [.rol (ns.map W.int)] [] = .ok (.bl true) h) : FnOk prog w K mg base CX0 n a fd ps (spLaw K) :=
  F.imp fun vs H Q E ⟨b, ns, e, hs, ho, hl, q⟩ => by
    subst e
    obtain ⟨h, hc⟩ := L ns hl
    refine ⟨[], [], _, _, h, ⟨rfl, fun r o a h1 _ => by simp at h1, fun r r' a h1 _ => by simp at h1⟩, .cons (vr_rol.mpr ⟨b, _, rfl, rol_of hs ho, vals_of_ints' ns⟩) .nil, hc, fun ρ' H' v F' R' V' => ?_⟩
    rw [vr_bl.mp V']
    exact q H'
/-- the end, ahead of the head -/
theorem law_walk {l : PySem.W.OpenLaw} {q : Program} {loose : List Str} {XP : (Str → Option Value) → Heap → Prop} {YP : World → Heap → Prop} {d : DefRec} {K : Params → PySem.W.Frag} {P : Prog} {ds : List DefI} {n i : Nat} {D : DefI}
    (hn : l.most = some 63) (hdf : d.params.defaults = []) (hY : ∀ (w : World) (h : Heap), YP w h → (K w.params).In h) (hr : Room n callerA)
    (hd : defsB ⟨ds.map (·.name)⟩ ds P.fns = true) (hD : ds[i]? = some D) (hDn : D.name = d.name) (hDp : D.ps = [("script" : Str)])
    (L : ∀ ns : List Int, ns.length ≤ 63 → ∃ h, P.call n i [.rol (ns.map W.int)] [] = .ok (.bl true) h)
    (hT : ∀ (w : World) (mg : Str → Option Value) (h : Heap), (K w.params).In h → h.Ns mainGlobals mg → Top P ds (K w.params) mg)
    (hB : ∀ (w : World) (fd : FuncData) (f : Addr), Fun (K w.params) D.name D.name D.st f fd → ∀ (s : Shared) (u : Value), BindsTo s fd ⟨[u], []⟩ [("script", u)]) :
    PySem.W.WalkO q loose XP YP l.row.toRowW d [] (fun f vs => PySem.call f vs) :=
  L2.walk_ofK (n := 63) (k := n) (x := "script") (CX := CX0) (sp := spLaw) hn (by rw [sizeLine_eq]; decide) hdf hr hY (fun w mg fa h hK hG hm => by
    have T := hT w mg h hK hG
    obtain ⟨a, fd, m1, m2, _⟩ := T.fn i D hD
    have e : mg d.name = some (.ref a) := by rw [← hDn]; exact m1
    rw [hm] at e
    cases e
    refine ⟨fd, hB w fd _ m2, fun base hK' hG' => ?_⟩
    obtain ⟨a2, fd2, q1, q2, _, q4⟩ := all_fns (prog := l.prog) (w := w) (base := base) (cl := fun _ => none) T hd n i D hD
    rw [m1] at q1
    cases q1
    have hfd : fd2 = fd := fun_inj q2 m2
    subst hfd
    rw [hDp] at q4
    exact law_fn q4 L) (fun K H a ns h1 h2 h3 => ⟨a, ns, rfl, h3, h2, h1, fun _ => rfl⟩) fun _ _ _ _ z => z
end Nw

set_option Elab.async false
set_option linter.all false
set_option maxRecDepth 100000
set_option maxHeartbeats 4000000
/-! Nw, part K: running the evaluator by simp (continuations are named, so that simp does not walk into them); heaps; loops. -/
namespace Nw
open PySem PySem.Spec PyProof.Rows L2

@[simp] theorem x_ok {α β : Type} (a : α) (h : VH) (f : α → VH → R β) : (R.ok a h).bind f = f a h := (rfl)
@[simp] theorem x_bad {α β : Type} (f : α → VH → R β) : (R.bad : R α).bind f = .bad := (rfl)
@[simp] theorem x_some {α : Type} (a : α) (h : VH) : ok? (some a) h = .ok a h := (rfl)
@[simp] theorem x_none {α : Type} (h : VH) : ok? (none : Option α) h = .bad := (rfl)
@[simp] theorem x_iteb {α β : Type} (c : Prop) [Decidable c] (r q : R α) (f : α → VH → R β) : (if c then r else q).bind f = if c then r.bind f else q.bind f := by split <;> rfl
def k_seq {α β γ : Type} (f : α → VH → R β) (g : β → VH → R γ) (a : α) (h : VH) : R γ := (f a h).bind g
@[simp] theorem y_seq {α β γ : Type} (f : α → VH → R β) (g : β → VH → R γ) (a : α) (h : VH) : k_seq f g a h = (f a h).bind g := (rfl)
@[simp] theorem x_assoc {α β γ : Type} (r : R α) (f : α → VH → R β) (g : β → VH → R γ) : (r.bind f).bind g = r.bind (k_seq f g) := by cases r <;> rfl
/-- it goes well, and Q holds of what it gives -/
def Run {α : Type} (r : R α) (Q : α → VH → Prop) : Prop := ∃ a h, r = .ok a h ∧ Q a h
theorem run_bind {α β : Type} {r : R α} {k : α → VH → R β} {P : α → VH → Prop} {Q : β → VH → Prop} (a : Run r P) (b : ∀ a h, P a h → Run (k a h) Q) : Run (r.bind k) Q := by
  obtain ⟨x, h, rfl, p⟩ := a
  exact b x h p
theorem Run.imp {α : Type} {r : R α} {P Q : α → VH → Prop} (a : Run r P) (b : ∀ a h, P a h → Q a h) : Run r Q := by
  obtain ⟨x, h, e, p⟩ := a
  exact ⟨x, h, e, b x h p⟩
/-- what is asked in the end, as one opaque word -/
theorem run_q {α : Type} {r : R α} {P : α → VH → Prop} (f : ∀ Q : α → VH → Prop, (∀ a h, P a h → Q a h) → Run r Q) : Run r P := f P fun _ _ z => z
@[simp] theorem run_ok {α : Type} (a : α) (h : VH) (Q : α → VH → Prop) : Run (.ok a h) Q = Q a h := by
  apply propext
  constructor
  · rintro ⟨_, _, e, q⟩
    cases e
    exact q
  · exact fun q => ⟨_, _, rfl, q⟩
theorem run_ite {α : Type} {c : Prop} [Decidable c] {r q : R α} {Q : α → VH → Prop} (a : c → Run r Q) (b : ¬ c → Run q Q) : Run (if c then r else q) Q := by
  split
  · exact a ‹_›
  · exact b ‹_›
@[simp] theorem x_setv (env : Env) (i : Nat) (w : W) (j : Nat) : setv env i w j = if j = i then some w else env j := (rfl)
@[simp] theorem x_wipe (env : Env) (own : List Nat) (j : Nat) : wipeE env own j = if j ∈ own then none else env j := (rfl)
@[simp] theorem x_env0 (ws : List W) (i : Nat) : env0 ws i = ws[i]? := (rfl)
section
variable (C : Cfg) (env : Env) (h : VH)
@[simp] theorem x_var (i : Nat) : evE C (.var i) env h = ok? (env i) h := (rfl)
@[simp] theorem x_cst (w : W) : evE C (.cst w) env h = .ok w h := (rfl)
@[simp] theorem x_gl (x : Str) : evE C (.gl x) env h = ok? (C.glob x) h := (rfl)
def k_op2 (o : Bop) (x y : W) (h : VH) : R W := binW o x y h
def k_op (C : Cfg) (o : Bop) (b : E) (env : Env) (x : W) (h : VH) : R W := (evE C b env h).bind (k_op2 o x)
@[simp] theorem y_op2 (o : Bop) (x y : W) : k_op2 o x y h = binW o x y h := (rfl)
@[simp] theorem y_op (o : Bop) (b : E) (x : W) : k_op C o b env x h = (evE C b env h).bind (k_op2 o x) := (rfl)
@[simp] theorem x_bin (o : Bop) (a b : E) : evE C (.bin o a b) env h = (evE C a env h).bind (k_op C o b env) := (rfl)
def k_ng (x : W) (h1 : VH) : R W := match x with | .int i => .ok (.int (-i)) h1 | _ => .bad
@[simp] theorem y_ng (i : Int) : k_ng (.int i) h = .ok (.int (-i)) h := (rfl)
@[simp] theorem x_neg (a : E) : evE C (.neg a) env h = (evE C a env h).bind k_ng := (rfl)
def k_bl (b : Bool) (h2 : VH) : R W := .ok (.bl b) h2
@[simp] theorem y_bl (b : Bool) : k_bl b h = .ok (.bl b) h := (rfl)
def k_nbl (b : Bool) (h2 : VH) : R W := .ok (.bl (!b)) h2
@[simp] theorem y_nbl (b : Bool) : k_nbl b h = .ok (.bl (!b)) h := (rfl)
def k_tr (x : W) (h : VH) : R Bool := ok? (truW h x) h
@[simp] theorem y_tr (x : W) : k_tr x h = ok? (truW h x) h := (rfl)
def k_nt (x : W) (h1 : VH) : R W := (ok? (truW h1 x) h1).bind k_nbl
@[simp] theorem y_nt (x : W) : k_nt x h = (ok? (truW h x) h).bind k_nbl := (rfl)
@[simp] theorem x_nt (a : E) : evE C (.nt a) env h = (evE C a env h).bind k_nt := (rfl)
def k_cm2 (o : Cop) (x y : W) (h2 : VH) : R W := (ok? (cmpW o x y h2) h2).bind k_bl
@[simp] theorem y_cm2 (o : Cop) (x y : W) : k_cm2 o x y h = (ok? (cmpW o x y h) h).bind k_bl := (rfl)
def k_cm (C : Cfg) (o : Cop) (b : E) (env : Env) (x : W) (h1 : VH) : R W := (evE C b env h1).bind (k_cm2 o x)
@[simp] theorem y_cm (o : Cop) (b : E) (x : W) : k_cm C o b env x h = (evE C b env h).bind (k_cm2 o x) := (rfl)
@[simp] theorem x_cmp (o : Cop) (a b : E) : evE C (.cmp o a b) env h = (evE C a env h).bind (k_cm C o b env) := (rfl)
def k_ch3 (C : Cfg) (p : Cop) (c : E) (env : Env) (y : W) (k : Bool) (h : VH) : R W := if k then (evE C c env h).bind (k_cm2 p y) else .ok (.bl false) h
@[simp] theorem y_ch3 (p : Cop) (c : E) (y : W) (k : Bool) : k_ch3 C p c env y k h = if k then (evE C c env h).bind (k_cm2 p y) else .ok (.bl false) h := (rfl)
def k_ch2 (C : Cfg) (o p : Cop) (c : E) (env : Env) (x y : W) (h : VH) : R W := (ok? (cmpW o x y h) h).bind (k_ch3 C p c env y)
@[simp] theorem y_ch2 (o p : Cop) (c : E) (x y : W) : k_ch2 C o p c env x y h = (ok? (cmpW o x y h) h).bind (k_ch3 C p c env y) := (rfl)
def k_ch (C : Cfg) (o p : Cop) (b c : E) (env : Env) (x : W) (h : VH) : R W := (evE C b env h).bind (k_ch2 C o p c env x)
@[simp] theorem y_ch (o p : Cop) (b c : E) (x : W) : k_ch C o p b c env x h = (evE C b env h).bind (k_ch2 C o p c env x) := (rfl)
@[simp] theorem x_chn (o p : Cop) (a b c : E) : evE C (.chn o p a b c) env h = (evE C a env h).bind (k_ch C o p b c env) := (rfl)
@[simp] theorem x_and (es : List E) : evE C (.and es) env h = evAnd C es env h := (rfl)
@[simp] theorem x_or (es : List E) : evE C (.or es) env h = evOr C es env h := (rfl)
def k_if (C : Cfg) (a b : E) (env : Env) (k : Bool) (h : VH) : R W := if k then evE C a env h else evE C b env h
@[simp] theorem y_if (a b : E) (k : Bool) : k_if C a b env k h = if k then evE C a env h else evE C b env h := (rfl)
@[simp] theorem x_ite (c a b : E) : evE C (.ite c a b) env h = ((evE C c env h).bind k_tr).bind (k_if C a b env) := by
  show (evE C c env h).bind _ = _
  cases evE C c env h <;> rfl
def k_tp (ws : List W) (h1 : VH) : R W := if ws.length ≤ line then .ok (.tup ws) h1 else .bad
@[simp] theorem y_tp (ws : List W) : k_tp ws h = if ws.length ≤ line then .ok (.tup ws) h else .bad := (rfl)
@[simp] theorem x_tup (es : List E) : evE C (.tup es) env h = (evEs C es env h).bind k_tp := (rfl)
@[simp] theorem x_lst (es : List E) : evE C (.lst es) env h = (evEs C es env h).bind newL := (rfl)
def k_dc (ks : List Key) (ws : List W) (h1 : VH) : R W := if ks.length = ws.length ∧ ks.length ≤ 15 then new (.dct ((ks.zip ws).foldl (fun a p => dset a p.1 p.2) [])) h1 else .bad
@[simp] theorem x_dct (ks : List Key) (es : List E) : evE C (.dct ks es) env h = (evEs C es env h).bind (k_dc ks) := (rfl)
def k_ix2 (x y : W) (h2 : VH) : R W := ok? (ixW h2 x y) h2
@[simp] theorem y_ix2 (x y : W) : k_ix2 x y h = ok? (ixW h x y) h := (rfl)
def k_ix (C : Cfg) (b : E) (env : Env) (x : W) (h1 : VH) : R W := (evE C b env h1).bind (k_ix2 x)
@[simp] theorem y_ix (b : E) (x : W) : k_ix C b env x h = (evE C b env h).bind (k_ix2 x) := (rfl)
@[simp] theorem x_ix (a b : E) : evE C (.ix a b) env h = (evE C a env h).bind (k_ix C b env) := (rfl)
def k_sl3 (x : W) (l : Option Int) (u : Option Int) (h3 : VH) : R W := slW x l u h3
@[simp] theorem y_sl3 (x : W) (l u : Option Int) : k_sl3 x l u h = slW x l u h := (rfl)
def k_sl2 (C : Cfg) (hi : Option E) (env : Env) (x : W) (l : Option Int) (h2 : VH) : R W := (evO C hi env h2).bind (k_sl3 x l)
@[simp] theorem y_sl2 (hi : Option E) (x : W) (l : Option Int) : k_sl2 C hi env x l h = (evO C hi env h).bind (k_sl3 x l) := (rfl)
def k_sl (C : Cfg) (lo hi : Option E) (env : Env) (x : W) (h2 : VH) : R W := (evO C lo env h2).bind (k_sl2 C hi env x)
@[simp] theorem y_sl (lo hi : Option E) (x : W) : k_sl C lo hi env x h = (evO C lo env h).bind (k_sl2 C hi env x) := (rfl)
@[simp] theorem x_sl (a : E) (lo hi : Option E) : evE C (.sl a lo hi) env h = (evE C a env h).bind (k_sl C lo hi env) := (rfl)
@[simp] theorem x_rev (a : E) : evE C (.rev a) env h = (evE C a env h).bind revW := (rfl)
@[simp] theorem x_call (f : Nat) (es : List E) : evE C (.call f es) env h = (evEs C es env h).bind (C.call f) := (rfl)
@[simp] theorem x_bi (f : Bi) (es : List E) : evE C (.bi f es) env h = (evEs C es env h).bind (biW f) := (rfl)
def k_is (t : Ty) (x : W) (h1 : VH) : R W := (ok? (isiW h1 t x) h1).bind k_bl
@[simp] theorem y_is (t : Ty) (x : W) : k_is t x h = (ok? (isiW h t x) h).bind k_bl := (rfl)
@[simp] theorem x_isi (a : E) (t : Ty) : evE C (.isi a t) env h = (evE C a env h).bind (k_is t) := (rfl)
def k_mt2 (C : Cfg) (m : Str) (x : W) (h1 : VH) (ws : List W) (h2 : VH) : R W := match x with
      | .ref r => match h1[r]? with
        | some (.lst _) => lmW m r ws h2
        | some (.ins c _) => match C.meth c m with | some f => C.call f (x :: ws) h2 | none => .bad
        | _ => .bad
      | _ => .bad
def k_mt (C : Cfg) (m : Str) (es : List E) (env : Env) (x : W) (h1 : VH) : R W := (evEs C es env h1).bind (k_mt2 C m x h1)
@[simp] theorem y_mt (m : Str) (es : List E) (x : W) : k_mt C m es env x h = (evEs C es env h).bind (k_mt2 C m x h) := (rfl)
@[simp] theorem x_mth (o : E) (m : Str) (es : List E) : evE C (.mth o m es) env h = (evE C o env h).bind (k_mt C m es env) := (rfl)

def itK (its : Its) (f : W → VH → R (Option W)) (h : VH) : R (List W) := lcRun its f (itLen h its + 1) 0 [] h
def k_some (x : W) (h : VH) : R (Option W) := .ok (some x) h
@[simp] theorem y_some (x : W) : k_some x h = .ok (some x) h := (rfl)
def k_elt (C : Cfg) (elt : E) (env : Env) (b : Bool) (h : VH) : R (Option W) := if b then (evE C elt env h).bind k_some else .ok none h
@[simp] theorem y_elt (elt : E) (b : Bool) : k_elt C elt env b h = if b then (evE C elt env h).bind k_some else .ok none h := (rfl)
def xlcF (C : Cfg) (elt : E) (own : List Nat) (tg : TN) (cs : List E) (env : Env) (w : W) (h : VH) : R (Option W) := match bindT tg w (wipeE env own) with
        | none => .bad
        | some e => (evTs C cs e h).bind (k_elt C elt e)
def k_lc2 (C : Cfg) (elt : E) (own : List Nat) (tg : TN) (cs : List E) (env : Env) (its : Its) (h : VH) : R W := (itK its (xlcF C elt own tg cs env) h).bind newL
@[simp] theorem y_lc2 (elt : E) (own : List Nat) (tg : TN) (cs : List E) (its : Its) : k_lc2 C elt own tg cs env its h = (itK its (xlcF C elt own tg cs env) h).bind newL := (rfl)
@[simp] theorem x_lc (elt : E) (own : List Nat) (tg : TN) (k : IK) (it cs : List E) : evE C (.lc elt own tg k it cs) env h = ((evEs C it env h).bind (itsOf k)).bind (k_lc2 C elt own tg cs env) := by
  show (evEs C it env h).bind _ = _
  cases evEs C it env h <;> rfl
@[simp] theorem x_lcF (elt : E) (own : List Nat) (i : Nat) (cs : List E) (w : W) : xlcF C elt own (.nm i) cs env w h = (evTs C cs (setv (wipeE env own) i w) h).bind (k_elt C elt (setv (wipeE env own) i w)) := (rfl)
def k_cons (x : W) (xs : List W) (h : VH) : R (List W) := .ok (x :: xs) h
@[simp] theorem y_cons (x : W) (xs : List W) : k_cons x xs h = .ok (x :: xs) h := (rfl)
def k_esc (C : Cfg) (es : List E) (env : Env) (x : W) (h : VH) : R (List W) := (evEs C es env h).bind (k_cons x)
@[simp] theorem y_esc (es : List E) (x : W) : k_esc C es env x h = (evEs C es env h).bind (k_cons x) := (rfl)
@[simp] theorem x_esn : evEs C [] env h = .ok [] h := (rfl)
@[simp] theorem x_esc (e : E) (es : List E) : evEs C (e :: es) env h = (evE C e env h).bind (k_esc C es env) := (rfl)
@[simp] theorem x_and1 (e : E) : evAnd C [e] env h = evE C e env h := (rfl)
def k_and2 (C : Cfg) (es : List E) (env : Env) (x : W) (k : Bool) (h2 : VH) : R W := if k then evAnd C es env h2 else .ok x h2
@[simp] theorem y_and2 (es : List E) (x : W) (k : Bool) : k_and2 C es env x k h = if k then evAnd C es env h else .ok x h := (rfl)
def k_and (C : Cfg) (es : List E) (env : Env) (x : W) (h1 : VH) : R W := (ok? (truW h1 x) h1).bind (k_and2 C es env x)
@[simp] theorem y_and (es : List E) (x : W) : k_and C es env x h = (ok? (truW h x) h).bind (k_and2 C es env x) := (rfl)
@[simp] theorem x_andc (e e' : E) (es : List E) : evAnd C (e :: e' :: es) env h = (evE C e env h).bind (k_and C (e' :: es) env) := (rfl)
@[simp] theorem x_or1 (e : E) : evOr C [e] env h = evE C e env h := (rfl)
def k_or2 (C : Cfg) (es : List E) (env : Env) (x : W) (k : Bool) (h2 : VH) : R W := if k then .ok x h2 else evOr C es env h2
@[simp] theorem y_or2 (es : List E) (x : W) (k : Bool) : k_or2 C es env x k h = if k then .ok x h else evOr C es env h := (rfl)
def k_or (C : Cfg) (es : List E) (env : Env) (x : W) (h1 : VH) : R W := (ok? (truW h1 x) h1).bind (k_or2 C es env x)
@[simp] theorem y_or (es : List E) (x : W) : k_or C es env x h = (ok? (truW h x) h).bind (k_or2 C es env x) := (rfl)
@[simp] theorem x_orc (e e' : E) (es : List E) : evOr C (e :: e' :: es) env h = (evE C e env h).bind (k_or C (e' :: es) env) := (rfl)
@[simp] theorem x_tsn : evTs C [] env h = .ok true h := (rfl)
def k_ts (C : Cfg) (es : List E) (env : Env) (k : Bool) (h2 : VH) : R Bool := if k then evTs C es env h2 else .ok false h2
@[simp] theorem y_ts (es : List E) (k : Bool) : k_ts C es env k h = if k then evTs C es env h else .ok false h := (rfl)
@[simp] theorem x_tsc (e : E) (es : List E) : evTs C (e :: es) env h = ((evE C e env h).bind k_tr).bind (k_ts C es env) := by
  show (evE C e env h).bind _ = _
  cases evE C e env h <;> rfl
@[simp] theorem x_on : evO C none env h = .ok none h := (rfl)
def k_o (x : W) (h1 : VH) : R (Option Int) := match x with | .int i => .ok (some i) h1 | _ => .bad
@[simp] theorem y_o (i : Int) : k_o (.int i) h = .ok (some i) h := (rfl)
@[simp] theorem x_os (e : E) : evO C (some e) env h = (evE C e env h).bind k_o := (rfl)
@[simp] theorem x_T (e : E) : evT C e env h = (evE C e env h).bind k_tr := (rfl)
@[simp] theorem x_tnm (i : Nat) (w : W) : asT C (.nm i) w env h = .ok (setv env i w) h := (rfl)
@[simp] theorem x_ttp (ts : List Tg) (ws : List W) : asT C (.tp ts) (.tup ws) env h = asTs C ts ws env h := (rfl)
def k_un (env : Env) (_ : Unit) (h : VH) : R Env := .ok env h
@[simp] theorem y_un (u : Unit) : k_un env u h = .ok env h := (rfl)
def k_sb2 (w x : W) (env : Env) (y : W) (h2 : VH) : R Env := (putW x y w h2).bind (k_un env)
@[simp] theorem y_sb2 (w x y : W) : k_sb2 w x env y h = (putW x y w h).bind (k_un env) := (rfl)
def k_sb (C : Cfg) (i : E) (w : W) (env : Env) (x : W) (h1 : VH) : R Env := (evE C i env h1).bind (k_sb2 w x env)
@[simp] theorem y_sb (i : E) (w x : W) : k_sb C i w env x h = (evE C i env h).bind (k_sb2 w x env) := (rfl)
@[simp] theorem x_tsub (o i : E) (w : W) : asT C (.sub o i) w env h = (evE C o env h).bind (k_sb C i w env) := (rfl)
@[simp] theorem x_ts0 : asTs C [] [] env h = .ok env h := (rfl)
def k_tss (C : Cfg) (ts : List Tg) (ws : List W) (e : Env) (h1 : VH) : R Env := asTs C ts ws e h1
@[simp] theorem y_tss (ts : List Tg) (ws : List W) : k_tss C ts ws env h = asTs C ts ws env h := (rfl)
@[simp] theorem x_ts1 (t : Tg) (ts : List Tg) (w : W) (ws : List W) : asTs C (t :: ts) (w :: ws) env h = (asT C t w env h).bind (k_tss C ts ws) := (rfl)
def k_nx1 (env : Env) (_ : W) (h1 : VH) : R (Fl × Env) := .ok (.nx, env) h1
@[simp] theorem y_nx1 (w : W) : k_nx1 env w h = .ok (.nx, env) h := (rfl)
@[simp] theorem x_ex (e : E) : evS C (.ex e) env h = (evE C e env h).bind (k_nx1 env) := (rfl)
def k_nx (env : Env) (h1 : VH) : R (Fl × Env) := .ok (.nx, env) h1
@[simp] theorem y_nx : k_nx env h = .ok (.nx, env) h := (rfl)
def k_set (C : Cfg) (t : Tg) (env : Env) (x : W) (h1 : VH) : R (Fl × Env) := (asT C t x env h1).bind k_nx
@[simp] theorem y_set (t : Tg) (x : W) : k_set C t env x h = (asT C t x env h).bind k_nx := (rfl)
@[simp] theorem x_set (t : Tg) (e : E) : evS C (.set t e) env h = (evE C e env h).bind (k_set C t env) := (rfl)
def k_sv (i : Nat) (env : Env) (z : W) (h2 : VH) : R (Fl × Env) := .ok (.nx, setv env i z) h2
@[simp] theorem y_sv (i : Nat) (z : W) : k_sv i env z h = .ok (.nx, setv env i z) h := (rfl)
def k_an (i : Nat) (o : Bop) (x : W) (env : Env) (y : W) (h2 : VH) : R (Fl × Env) := (augW o x y h2).bind (k_sv i env)
@[simp] theorem y_an (i : Nat) (o : Bop) (x y : W) : k_an i o x env y h = (augW o x y h).bind (k_sv i env) := (rfl)
def k_an0 (C : Cfg) (i : Nat) (o : Bop) (e : E) (env : Env) (x : W) (h2 : VH) : R (Fl × Env) := (evE C e env h2).bind (k_an i o x env)
@[simp] theorem y_an0 (i : Nat) (o : Bop) (e : E) (x : W) : k_an0 C i o e env x h = (evE C e env h).bind (k_an i o x env) := (rfl)
@[simp] theorem x_augN (i : Nat) (o : Bop) (e : E) : evS C (.augN i o e) env h = (ok? (env i) h).bind (k_an0 C i o e env) := (rfl)
def k_un2 (env : Env) (_ : Unit) (h1 : VH) : R (Fl × Env) := .ok (.nx, env) h1
@[simp] theorem y_un2 (u : Unit) : k_un2 env u h = .ok (.nx, env) h := (rfl)
def k_as4 (env : Env) (x y z : W) (h5 : VH) : R (Fl × Env) := (putW x y z h5).bind (k_un2 env)
@[simp] theorem y_as4 (x y z : W) : k_as4 env x y z h = (putW x y z h).bind (k_un2 env) := (rfl)
def k_as3 (p : Bop) (env : Env) (x y old : W) (w : W) (h4 : VH) : R (Fl × Env) := (augW p old w h4).bind (k_as4 env x y)
@[simp] theorem y_as3 (p : Bop) (x y old w : W) : k_as3 p env x y old w h = (augW p old w h).bind (k_as4 env x y) := (rfl)
def k_as2 (C : Cfg) (p : Bop) (e : E) (env : Env) (x y : W) (old : W) (h3 : VH) : R (Fl × Env) := (evE C e env h3).bind (k_as3 p env x y old)
@[simp] theorem y_as2 (p : Bop) (e : E) (x y old : W) : k_as2 C p e env x y old h = (evE C e env h).bind (k_as3 p env x y old) := (rfl)
def k_as1 (C : Cfg) (p : Bop) (e : E) (env : Env) (x y : W) (h2 : VH) : R (Fl × Env) := (ok? (ixW h2 x y) h2).bind (k_as2 C p e env x y)
@[simp] theorem y_as1 (p : Bop) (e : E) (x y : W) : k_as1 C p e env x y h = (ok? (ixW h x y) h).bind (k_as2 C p e env x y) := (rfl)
def k_as0 (C : Cfg) (i : E) (p : Bop) (e : E) (env : Env) (x : W) (h2 : VH) : R (Fl × Env) := (evE C i env h2).bind (k_as1 C p e env x)
@[simp] theorem y_as0 (i : E) (p : Bop) (e : E) (x : W) : k_as0 C i p e env x h = (evE C i env h).bind (k_as1 C p e env x) := (rfl)
@[simp] theorem x_augS (o i : E) (p : Bop) (e : E) : evS C (.augS o i p e) env h = (evE C o env h).bind (k_as0 C i p e env) := (rfl)
@[simp] theorem x_ret0 : evS C (.ret none) env h = .ok (.rt .non, env) h := (rfl)
def k_rt (env : Env) (x : W) (h1 : VH) : R (Fl × Env) := .ok (.rt x, env) h1
@[simp] theorem y_rt (x : W) : k_rt env x h = .ok (.rt x, env) h := (rfl)
@[simp] theorem x_ret (e : E) : evS C (.ret (some e)) env h = (evE C e env h).bind (k_rt env) := (rfl)
def k_ife (C : Cfg) (a b : List Sm) (env : Env) (k : Bool) (h : VH) : R (Fl × Env) := if k then evSs C a env h else evSs C b env h
@[simp] theorem y_ife (a b : List Sm) (k : Bool) : k_ife C a b env k h = if k then evSs C a env h else evSs C b env h := (rfl)
@[simp] theorem x_if (c : E) (a b : List Sm) : evS C (.ife c a b) env h = (evT C c env h).bind (k_ife C a b env) := (rfl)
def forF (C : Cfg) (t : TN) (b : List Sm) (w : W) (env : Env) (h : VH) : R (Fl × Env) := match bindT t w env with | none => .bad | some e => evSs C b e h
def forK (f : W → Env → VH → R (Fl × Env)) (env : Env) (its : Its) (h : VH) : R (Fl × Env) := forRun its f (itLen h its + 1) 0 env h
@[simp] theorem x_for (t : TN) (k : IK) (it : List E) (b : List Sm) : evS C (.for t k it b) env h = ((evEs C it env h).bind (itsOf k)).bind (forK (forF C t b) env) := by
  show (evEs C it env h).bind _ = _
  cases evEs C it env h <;> rfl
@[simp] theorem x_forF (i : Nat) (b : List Sm) (w : W) : forF C (.nm i) b w env h = evSs C b (setv env i w) h := (rfl)
@[simp] theorem x_pass : evS C .pass env h = .ok (.nx, env) h := (rfl)
@[simp] theorem x_brk : evS C .brk env h = .ok (.bk, env) h := (rfl)
@[simp] theorem x_cont : evS C .cont env h = .ok (.ct, env) h := (rfl)
def k_ss (C : Cfg) (ss : List Sm) (r : Fl × Env) (h1 : VH) : R (Fl × Env) := match r with
    | (.nx, e) => evSs C ss e h1
    | r => .ok r h1
@[simp] theorem x_ssn : evSs C [] env h = .ok (.nx, env) h := (rfl)
@[simp] theorem x_ssc (s : Sm) (ss : List Sm) : evSs C (s :: ss) env h = (evS C s env h).bind (k_ss C ss) := by
  show (evS C s env h).bind _ = _
  cases evS C s env h with
  | bad => rfl
  | ok a h1 => rcases a with ⟨fl, e⟩; cases fl <;> rfl
@[simp] theorem y_ss (ss : List Sm) (e : Env) : k_ss C ss (.nx, e) h = evSs C ss e h := (rfl)
@[simp] theorem y_ss1 (ss : List Sm) (w : W) (e : Env) : k_ss C ss (.rt w, e) h = .ok (.rt w, e) h := (rfl)
@[simp] theorem y_ss2 (ss : List Sm) (e : Env) : k_ss C ss (.bk, e) h = .ok (.bk, e) h := (rfl)
@[simp] theorem y_ss3 (ss : List Sm) (e : Env) : k_ss C ss (.ct, e) h = .ok (.ct, e) h := (rfl)
def retK (r : Fl × Env) (h1 : VH) : R W := match r.1 with
    | .rt w => .ok w h1
    | .nx => .ok .non h1
    | _ => .bad
@[simp] theorem x_rrt (w : W) (e : Env) : retK (.rt w, e) h = .ok w h := (rfl)
@[simp] theorem x_rnx (e : Env) : retK (.nx, e) h = .ok .non h := (rfl)
theorem run_eq {p : Nat} {b : List Sm} {ws : List W} (hl : ws.length = p) : runFn C ⟨p, b⟩ ws h = (evSs C b (env0 ws) h).bind retK := by
  unfold runFn
  rw [if_pos hl]
  rfl
end
@[simp] theorem x_cfg (P : Prog) (n f : Nat) (ws : List W) (h : VH) : (P.cfg n).call f ws h = P.call n f ws h := (rfl)
@[simp] theorem x_cfg1 (P : Prog) (n : Nat) : (P.cfg n).call = P.call n := (rfl)
@[simp] theorem x_cfg2 (P : Prog) (n : Nat) : (P.cfg n).glob = P.glob := (rfl)
@[simp] theorem x_cfg3 (P : Prog) (n : Nat) : (P.cfg n).M = P.M := (rfl)
@[simp] theorem x_S (a b : List Nat) : (S a = S b) = (a = b) := by rw [S_inj]
@[simp] theorem x_dg0 (j : Key) : dget [] j = none := (rfl)
@[simp] theorem x_dg (k j : Key) (v : W) (r : List (Key × W)) : dget ((k, v) :: r) j = if k = j then some v else dget r j := (rfl)
@[simp] theorem x_fg0 (j : Str) : fget [] j = none := (rfl)
@[simp] theorem x_fg (k j : Str) (v : W) (r : List (Str × W)) : fget ((k, v) :: r) j = if k = j then some v else fget r j := (rfl)
@[simp] theorem x_ds (l : List (Key × W)) (k : Key) (w : W) : dset l k w = if (l.any fun p => decide (p.1 = k)) = true then l.map (fun p => if p.1 = k then (p.1, w) else p) else l ++ [(k, w)] := (rfl)
/-! ### the heap by own words: what stands at r; a store; a new object -/
def hg (h : VH) (r : Nat) : Option O := h[r]?
def hs (h : VH) (r : Nat) (o : O) : VH := h.set r o
def hn (h : VH) (o : O) : VH := h ++ [o]
theorem lt_hg {h : VH} {r : Nat} (e : (hg h r).isSome = true) : r < h.length := by
  unfold hg at e
  rw [Option.isSome_iff_exists] at e
  obtain ⟨o, e⟩ := e
  exact (List.getElem?_eq_some_iff.mp e).1
theorem hg_lt {h : VH} {r : Nat} (e : r < h.length) : (hg h r).isSome = true := by
  unfold hg
  rw [List.getElem?_eq_getElem e]; rfl
/-- where the k-th new object will stand -/
def nx (h : VH) (k : Nat) : Nat := h.length + k
@[simp] theorem nx_hs (h : VH) (r k : Nat) (o : O) : nx (hs h r o) k = nx h k := by simp [nx, hs]
@[simp] theorem nx_hn (h : VH) (k : Nat) (o : O) : nx (hn h o) k = nx h (k + 1) := by simp [nx, hn]; omega
@[simp] theorem nx_nx (h : VH) (j k : Nat) : (nx h j = nx h k) = (j = k) := by simp [nx]
theorem nx_le {h0 h : VH} (l : h0.length ≤ h.length) (k : Nat) : h0.length ≤ nx h k := Nat.le_trans l (Nat.le_add_right _ _)
theorem hs_len (h : VH) (r : Nat) (o : O) : (hs h r o).length = h.length := List.length_set
theorem hn_len (h : VH) (o : O) : (hn h o).length = h.length + 1 := by simp [hn]
@[simp] theorem hg_hs {h : VH} {r : Nat} {o : O} (e : (hg h r).isSome = true) : hg (hs h r o) r = some o := List.getElem?_set_self (lt_hg e)
@[simp] theorem hg_ne {h : VH} {r q : Nat} {o : O} (e : r ≠ q) : hg (hs h r o) q = hg h q := List.getElem?_set_ne e
theorem hg_hn {h : VH} {q : Nat} {o : O} (e : (hg h q).isSome = true) : hg (hn h o) q = hg h q := List.getElem?_append_left (lt_hg e)
@[simp] theorem hg_hn_if (h : VH) (q : Nat) (o : O) : hg (hn h o) q = if q = nx h 0 then some o else hg h q := by
  unfold hg hn nx
  split
  · rename_i e
    subst e
    rw [List.getElem?_append_right (by omega)]; simp
  · rename_i e
    by_cases l : q < h.length
    · exact List.getElem?_append_left l
    · rw [List.getElem?_eq_none_iff.mpr (by simp; omega), List.getElem?_eq_none_iff.mpr (by omega)]
@[simp] theorem nx_ne {h : VH} {q k : Nat} (e : (hg h q).isSome = true) : (nx h k = q) = False := by
  have := lt_hg e
  unfold nx
  simp; omega
@[simp] theorem nx_ne2 {h : VH} {q k : Nat} (e : (hg h q).isSome = true) : (q = nx h k) = False := by
  have := lt_hg e
  unfold nx
  simp; omega
theorem hs_hs {h : VH} {r : Nat} {o o' : O} : hs (hs h r o) r o' = hs h r o' := by simp [hs]
/-! ### values by their kinds -/
section
variable (h : VH)
@[simp] theorem z_addi (i j : Int) : binW .add (.int i) (.int j) h = .ok (.int (i + j)) h := (rfl)
@[simp] theorem z_subi (i j : Int) : binW .sub (.int i) (.int j) h = .ok (.int (i - j)) h := (rfl)
theorem z_muli {i j : Int} (e : i.natAbs < 2 ^ 60 ∨ j.natAbs < 2 ^ 60) : binW .mul (.int i) (.int j) h = .ok (.int (i * j)) h := by
  show (if mulOk i j = true then _ else _) = _
  rw [if_pos]
  simpa [mulOk] using e

@[simp] theorem z_mulr {i j : Int} (e : j.natAbs < 1152921504606846976) : binW .mul (.int i) (.int j) h = .ok (.int (i * j)) h := z_muli h (.inr e)
theorem z_mull {i j : Int} (e : i.natAbs < 1152921504606846976) : binW .mul (.int i) (.int j) h = .ok (.int (i * j)) h := z_muli h (.inl e)
@[simp] theorem z_fd {i j : Int} (e : 0 < j) (e2 : j < 1267650600228229401496703205376) : binW .fdiv (.int i) (.int j) h = .ok (.int (i / j)) h := by
  have q : binI .fdiv i j = some (i / j) := if_pos ⟨e, e2⟩
  show (match binI .fdiv i j with | some k => _ | none => _) = _
  rw [q]
@[simp] theorem z_md {i j : Int} (e : 0 < j) : binW .mod (.int i) (.int j) h = .ok (.int (i % j)) h := by
  have q : binI .mod i j = some (i % j) := if_pos e
  show (match binI .mod i j with | some k => _ | none => _) = _
  rw [q]
@[simp] theorem z_aug (i j : Int) : augW .add (.int i) (.int j) h = .ok (.int (i + j)) h := (rfl)
@[simp] theorem z_aug2 (i j : Int) : augW .sub (.int i) (.int j) h = .ok (.int (i - j)) h := (rfl)
@[simp] theorem z_lt (i j : Int) : cmpW .lt (.int i) (.int j) h = some (decide (i < j)) := (rfl)
@[simp] theorem z_le (i j : Int) : cmpW .le (.int i) (.int j) h = some (decide (i ≤ j)) := (rfl)
@[simp] theorem z_gt (i j : Int) : cmpW .gt (.int i) (.int j) h = some (decide (j < i)) := (rfl)
@[simp] theorem z_ge (i j : Int) : cmpW .ge (.int i) (.int j) h = some (decide (j ≤ i)) := (rfl)
@[simp] theorem z_eq (a b : W) : cmpW .eq a b h = eqW h a b := (rfl)
@[simp] theorem z_ne (a b : W) : cmpW .ne a b h = (eqW h a b).map (!·) := (rfl)
@[simp] theorem z_in (a b : W) : cmpW .isin a b h = inW h a b := (rfl)
@[simp] theorem z_nin (a b : W) : cmpW .notin a b h = (inW h a b).map (!·) := (rfl)
@[simp] theorem z_eqi (i j : Int) : eqW h (.int i) (.int j) = some (decide (i = j)) := (rfl)
@[simp] theorem z_eqs (i j : Str) : eqW h (.str i) (.str j) = some (decide (i = j)) := (rfl)
@[simp] theorem z_eqb (i j : Bool) : eqW h (.bl i) (.bl j) = some (decide (i = j)) := (rfl)
@[simp] theorem z_trb (b : Bool) : truW h (.bl b) = some b := (rfl)
@[simp] theorem z_tri (i : Int) : truW h (.int i) = some (i != 0) := (rfl)
@[simp] theorem z_trn : truW h .non = some false := (rfl)
@[simp] theorem z_trt (ws : List W) : truW h (.tup ws) = some (!ws.isEmpty) := (rfl)
@[simp] theorem z_inti (i : Int) : biW .int [.int i] h = .ok (.int i) h := (rfl)
@[simp] theorem z_intb (b : Bool) : biW .int [.bl b] h = .ok (.int (if b then 1 else 0)) h := (rfl)
@[simp] theorem z_abs (i : Int) : biW .abs [.int i] h = .ok (.int (if i < 0 then -i else i)) h := (rfl)
@[simp] theorem z_lent (ws : List W) : biW .len [.tup ws] h = .ok (.int ws.length) h := (rfl)
@[simp] theorem z_lenr (ws : List W) : biW .len [.rol ws] h = .ok (.int ws.length) h := (rfl)
def lenO (h : VH) : Option O → R W
  | some (.lst ws) => .ok (.int ws.length) h
  | some (.dct kvs) => .ok (.int kvs.length) h
  | _ => .bad
@[simp] theorem o_len1 (ws : List W) : lenO h (some (.lst ws)) = .ok (.int ws.length) h := (rfl)
@[simp] theorem o_len2 (ws : List (Key × W)) : lenO h (some (.dct ws)) = .ok (.int ws.length) h := (rfl)
@[simp] theorem z_lenl (r : Nat) : biW .len [.ref r] h = lenO h (hg h r) := by
  show (match hg h r with | some (.lst ws) => _ | some (.dct kvs) => _ | _ => _) = _
  unfold lenO
  rfl
@[simp] theorem z_lens (s : Str) : biW .len [.str s] h = if s.length ≤ line then .ok (.int s.length) h else .bad := (rfl)
@[simp] theorem z_max2 (i j : Int) : biW .max [.int i, .int j] h = .ok (.int (if j > i then j else i)) h := (rfl)
@[simp] theorem z_min2 (i j : Int) : biW .min [.int i, .int j] h = .ok (.int (if j < i then j else i)) h := (rfl)
@[simp] theorem z_ixt (ws : List W) (i : Int) : ixW h (.tup ws) (.int i) = atW ws i := (rfl)
@[simp] theorem z_ixr (ws : List W) (i : Int) : ixW h (.rol ws) (.int i) = atW ws i := (rfl)
def ixO : Option O → W → Option W
  | some (.dct kvs), k => (match keyW k with | some k => dget kvs k | none => none)
  | some (.lst ws), k => (match k with | .int i => atW ws i | _ => none)
  | _, _ => none
@[simp] theorem o_ix1 (kvs : List (Key × W)) (s : Str) : ixO (some (.dct kvs)) (.str s) = dget kvs (.inr s) := (rfl)
@[simp] theorem o_ix2 (kvs : List (Key × W)) (s : Int) : ixO (some (.dct kvs)) (.int s) = dget kvs (.inl s) := (rfl)
@[simp] theorem o_ix3 (kvs : List W) (s : Int) : ixO (some (.lst kvs)) (.int s) = atW kvs s := (rfl)
@[simp] theorem z_ix (r : Nat) (k : W) : ixW h (.ref r) k = ixO (hg h r) k := by
  show (match hg h r with | some (.dct kvs) => _ | some (.lst ws) => _ | _ => _) = _
  cases hg h r with
  | none => rfl
  | some o => cases o <;> rfl
def putO (h : VH) (r : Nat) : Option O → W → W → R Unit
  | some (.lst ws), .int j, w => if 0 ≤ j then (if j < ws.length then .ok () (hs h r (.lst (ws.set j.toNat w))) else .bad)
                  else if -(ws.length : Int) ≤ j then .ok () (hs h r (.lst (ws.set (j + ws.length).toNat w))) else .bad
  | some (.dct kvs), i, w => (match keyW i with | some k => if kvs.length < line then .ok () (hs h r (.dct (dset kvs k w))) else .bad | none => .bad)
  | _, _, _ => .bad
@[simp] theorem o_put1 (r : Nat) (ws : List W) (j : Int) (w : W) : putO h r (some (.lst ws)) (.int j) w = if 0 ≤ j then (if j < ws.length then .ok () (hs h r (.lst (ws.set j.toNat w))) else .bad)
                  else if -(ws.length : Int) ≤ j then .ok () (hs h r (.lst (ws.set (j + ws.length).toNat w))) else .bad := rfl
@[simp] theorem o_put2 (r : Nat) (kvs : List (Key × W)) (s : Str) (w : W) : putO h r (some (.dct kvs)) (.str s) w = if kvs.length < line then .ok () (hs h r (.dct (dset kvs (.inr s) w))) else .bad := (rfl)
@[simp] theorem o_put3 (r : Nat) (kvs : List (Key × W)) (s : Int) (w : W) : putO h r (some (.dct kvs)) (.int s) w = if kvs.length < line then .ok () (hs h r (.dct (dset kvs (.inl s) w))) else .bad := (rfl)
@[simp] theorem z_put (r : Nat) (i w : W) : putW (.ref r) i w h = putO h r (hg h r) i w := by
  show (match hg h r with | some (.lst ws) => _ | some (.dct kvs) => _ | _ => _) = _
  cases hg h r with
  | none => rfl
  | some o => cases o <;> first | rfl | (cases i <;> rfl)
def mtO (C : Cfg) (m : Str) (r : Nat) (ws : List W) (h2 : VH) : Option O → R W
  | some (.lst _) => lmW m r ws h2
  | some (.ins c _) => (match C.meth c m with | some f => C.call f (.ref r :: ws) h2 | none => .bad)
  | _ => .bad
@[simp] theorem o_mt (C : Cfg) (m : Str) (r : Nat) (ws zs : List W) : mtO C m r ws h (some (.lst zs)) = lmW m r ws h := (rfl)
@[simp] theorem y_mt2 (C : Cfg) (m : Str) (r : Nat) (h1 : VH) (ws : List W) : k_mt2 C m (.ref r) h1 ws h = mtO C m r ws h (hg h1 r) := (rfl)
def appO (h : VH) (r : Nat) (w : W) : Option O → R W
  | some (.lst ws) => if ws.length < line then .ok .non (hs h r (.lst (ws ++ [w]))) else .bad
  | _ => .bad
@[simp] theorem o_app (r : Nat) (w : W) (ws : List W) : appO h r w (some (.lst ws)) = if ws.length < line then .ok .non (hs h r (.lst (ws ++ [w]))) else .bad := (rfl)
@[simp] theorem z_app (r : Nat) (w : W) : lmW (S [97, 112, 112, 101, 110, 100]) r [w] h = appO h r w (hg h r) := by
  show (match hg h r with | some (.lst ws) => _ | _ => _) = _
  unfold appO
  cases hg h r with
  | none => rfl
  | some o => cases o <;> simp only [reduceIte, hs]
def indO (h : VH) (w : W) : Option O → R W
  | some (.lst ws) => if flatW w = true ∧ ws.all flatW = true then (match ws.findIdx? (fun y => eqF y w) with | some j => .ok (.int (j : Nat)) h | none => .bad) else .bad
  | _ => .bad
def idxK (h : VH) : Option Nat → R W
  | some j => .ok (.int (j : Nat)) h
  | none => .bad
@[simp] theorem o_idx (j : Nat) : idxK h (some j) = .ok (.int (j : Nat)) h := (rfl)
@[simp] theorem o_ind (w : W) (ws : List W) : indO h w (some (.lst ws)) = if flatW w = true ∧ ws.all flatW = true then idxK h (ws.findIdx? (fun y => eqF y w)) else .bad := by
  show (if _ then (match ws.findIdx? (fun y => eqF y w) with | some j => _ | none => _) else _) = _
  unfold idxK
  rfl
@[simp] theorem z_index (r : Nat) (w : W) : lmW (S [105, 110, 100, 101, 120]) r [w] h = indO h w (hg h r) := by
  show (match hg h r with | some (.lst ws) => _ | _ => _) = _
  unfold indO
  cases hg h r with
  | none => rfl
  | some o => cases o <;> first | rfl | simp only [reduceIte, S_inj, List.cons.injEq, Nat.reduceEqDiff, false_and, and_false]
@[simp] theorem x_line : line = 16777216 := (rfl)
@[simp] theorem x_new (o : O) : new o h = .ok (.ref (nx h 0)) (hn h o) := (rfl)
@[simp] theorem z_newL {ws : List W} (l : ws.length ≤ 16777216) : newL ws h = .ok (.ref (nx h 0)) (hn h (.lst ws)) := by
  unfold newL
  rw [if_pos l]
  rfl
def slO (h : VH) (lo hi : Option Int) : Option O → R W
  | some (.lst ws) => .ok (.ref (nx h 0)) (hn h (.lst (cut ws lo hi)))
  | _ => .bad
@[simp] theorem o_sl (lo hi : Option Int) (ws : List W) : slO h lo hi (some (.lst ws)) = .ok (.ref (nx h 0)) (hn h (.lst (cut ws lo hi))) := (rfl)
@[simp] theorem z_sl (r : Nat) (lo hi : Option Int) : slW (.ref r) lo hi h = slO h lo hi (hg h r) := by
  show (match listAt h r with | some ws => _ | none => _) = _
  unfold listAt
  show (match (match hg h r with | some (.lst ws) => some ws | _ => none) with | some ws => _ | none => _) = _
  cases hg h r with
  | none => rfl
  | some o => cases o <;> rfl
@[simp] theorem z_slt (ws : List W) (lo hi : Option Int) : slW (.tup ws) lo hi h = .ok (.tup (cut ws lo hi)) h := (rfl)
@[simp] theorem z_slr (ws : List W) (lo hi : Option Int) : slW (.rol ws) lo hi h = .ok (.ref (nx h 0)) (hn h (.lst (cut ws lo hi))) := (rfl)
theorem cut_map {α β : Type} (f : α → β) (ws : List α) (lo hi : Option Int) : cut (ws.map f) lo hi = (cut ws lo hi).map f := by
  simp [cut, List.map_drop, List.map_take]
theorem cut_mem {α : Type} {ws : List α} {lo hi : Option Int} {x : α} (m : x ∈ cut ws lo hi) : x ∈ ws := List.mem_of_mem_drop (List.mem_of_mem_take m)
theorem cut_len {α : Type} {ws : List α} {lo hi : Option Int} : (cut ws lo hi).length ≤ ws.length := by
  simp [cut]; omega
def addO (h : VH) : Option O → Option O → R W
  | some (.lst x), some (.lst y) => if x.length + y.length ≤ line then new (.lst (x ++ y)) h else .bad
  | _, _ => .bad
@[simp] theorem o_add (x y : List W) : addO h (some (.lst x)) (some (.lst y)) = if x.length + y.length ≤ line then .ok (.ref (nx h 0)) (hn h (.lst (x ++ y))) else .bad := (rfl)
@[simp] theorem z_addl (r q : Nat) : binW .add (.ref r) (.ref q) h = addO h (hg h r) (hg h q) := by
  show (match hg h r, hg h q with | some (.lst x), some (.lst y) => _ | _, _ => _) = _
  unfold addO
  rfl
@[simp] theorem z_addt (x y : List W) : binW .add (.tup x) (.tup y) h = if x.length + y.length ≤ line then .ok (.tup (x ++ y)) h else .bad := (rfl)
@[simp] theorem z_adds (x y : Str) : binW .add (.str x) (.str y) h = if x.length + y.length ≤ line then .ok (.str (x ++ y)) h else .bad := (rfl)
def mulO (h : VH) (j : Int) : Option O → R W
  | some (.lst x) => if j < 2 ^ 30 ∧ -(2 ^ 30) < j ∧ x.length * j.toNat ≤ line then new (.lst (List.replicate j.toNat x).flatten) h else .bad
  | _ => .bad
@[simp] theorem o_mul (x : List W) (j : Int) : mulO h j (some (.lst x)) = if j < 1073741824 ∧ -1073741824 < j ∧ x.length * j.toNat ≤ line then .ok (.ref (nx h 0)) (hn h (.lst (List.replicate j.toNat x).flatten)) else .bad := (rfl)
@[simp] theorem z_mull' (r : Nat) (j : Int) : binW .mul (.ref r) (.int j) h = mulO h j (hg h r) := by
  show (match hg h r with | some (.lst x) => _ | _ => _) = _
  unfold mulO
  rfl
@[simp] theorem z_mult (x : List W) (j : Int) : binW .mul (.tup x) (.int j) h = if x ≠ [] ∧ 2 ≤ j ∧ j ≤ 1000 ∧ x.length ≤ 1000 then .ok (.tup (List.replicate j.toNat x).flatten) h else .bad := (rfl)
def lstO (h : VH) : Option O → R W
  | some (.lst x) => .ok (.ref (nx h 0)) (hn h (.lst x))
  | _ => .bad
def tplO (h : VH) : Option O → R W
  | some (.lst x) => .ok (.tup x) h
  | _ => .bad
@[simp] theorem o_lst (x : List W) : lstO h (some (.lst x)) = .ok (.ref (nx h 0)) (hn h (.lst x)) := (rfl)
@[simp] theorem o_tpl (x : List W) : tplO h (some (.lst x)) = .ok (.tup x) h := (rfl)
@[simp] theorem z_lstt (x : List W) : biW .list [.tup x] h = .ok (.ref (nx h 0)) (hn h (.lst x)) := (rfl)
@[simp] theorem z_lstr (x : List W) : biW .list [.rol x] h = .ok (.ref (nx h 0)) (hn h (.lst x)) := (rfl)
@[simp] theorem z_lstl (r : Nat) : biW .list [.ref r] h = lstO h (hg h r) := by
  show (match listAt h r with | some ws => _ | none => _) = _
  unfold listAt
  show (match (match hg h r with | some (.lst ws) => some ws | _ => none) with | some ws => _ | none => _) = _
  cases hg h r with
  | none => rfl
  | some o => cases o <;> rfl
@[simp] theorem z_tplt (x : List W) : biW .tuple [.tup x] h = .ok (.tup x) h := (rfl)
@[simp] theorem z_tplr (x : List W) : biW .tuple [.rol x] h = .ok (.tup x) h := (rfl)
@[simp] theorem z_tpll (r : Nat) : biW .tuple [.ref r] h = tplO h (hg h r) := by
  show (match listAt h r with | some ws => _ | none => _) = _
  unfold listAt
  show (match (match hg h r with | some (.lst ws) => some ws | _ => none) with | some ws => _ | none => _) = _
  cases hg h r with
  | none => rfl
  | some o => cases o <;> rfl
@[simp] theorem z_itt (x : List W) : itsOf .plain [.tup x] h = .ok (.ws x) h := (rfl)
@[simp] theorem z_its (x : Str) : itsOf .plain [.str x] h = .ok (.ws (strW x)) h := (rfl)
@[simp] theorem z_itr (x : List W) : itsOf .plain [.rol x] h = .ok (.ws x) h := (rfl)
theorem z_itl {r : Nat} {x : List W} (e : hg h r = some (.lst x)) : itsOf .plain [.ref r] h = .ok (.live r) h := by
  show (match listAt h r with | some ws => _ | none => _) = _
  unfold listAt
  show (match (match hg h r with | some (.lst ws) => some ws | _ => none) with | some ws => _ | none => _) = _
  rw [e]
@[simp] theorem z_rg2 {i j : Int} (e : j < 2305843009213693952) (e2 : 0 ≤ j) (e3 : 0 ≤ i) (e4 : i < 2305843009213693952) : itsOf .range [.int i, .int j] h = .ok (.ws (rangeW i j)) h := by
  show (if inI i ∧ inI j then _ else _) = _
  rw [if_pos]
  simp [inI]; omega
@[simp] theorem y_dc (ks : List Key) (ws : List W) (e : ks.length = ws.length) (l : ks.length ≤ 15) : k_dc ks ws h = .ok (.ref (nx h 0)) (hn h (.dct ((ks.zip ws).foldl (fun a p => dset a p.1 p.2) []))) := by
  unfold k_dc
  rw [if_pos ⟨e, l⟩]
  rfl
@[simp] theorem z_rg1 {j : Int} (e : j < 2305843009213693952) (e2 : 0 ≤ j) : itsOf .range [.int j] h = .ok (.ws (rangeW 0 j)) h := by
  show (if inI j = true then _ else _) = _
  rw [if_pos]
  simp [inI]; omega
end
@[simp] theorem z_inT (h : VH) (a : W) (ws : List W) : inW h a (.tup ws) = inF a ws := (rfl)
@[simp] theorem z_inF (a : W) (ws : List W) : inF a ws = if flatW a = true ∧ ws.all flatW = true then some (ws.any fun y => eqF y a) else none := (rfl)
@[simp] theorem fl_n : flatW .non = true := (rfl)
@[simp] theorem fl_b (b : Bool) : flatW (.bl b) = true := (rfl)
@[simp] theorem fl_i (i : Int) : flatW (.int i) = true := (rfl)
@[simp] theorem fl_s (s : Str) : flatW (.str s) = true := (rfl)
@[simp] theorem ef_s (a b : Str) : eqF (.str a) (.str b) = decide (a = b) := by
  show (a == b) = _
  by_cases e : a = b
  · subst e; simp
  · rw [decide_eq_false e]; simpa using e
@[simp] theorem ef_i (a b : Int) : eqF (.int a) (.int b) = decide (a = b) := by
  show (a == b) = _
  by_cases e : a = b
  · subst e; simp
  · rw [decide_eq_false e]; simpa using e
@[simp] theorem ef_si (a : Str) (b : Int) : eqF (.str a) (.int b) = false := (rfl)
@[simp] theorem ef_is (a : Str) (b : Int) : eqF (.int b) (.str a) = false := (rfl)
theorem atW_nat {ws : List W} {k : Nat} : atW ws (k : Int) = ws[k]? := by
  unfold atW
  rw [if_pos (by omega)]
  rfl
theorem atW_pos {ws : List W} {i : Int} (e : 0 ≤ i) : atW ws i = ws[i.toNat]? := by
  unfold atW
  rw [if_pos e]
@[simp] theorem at0 (ws : List W) : atW ws 0 = ws[0]? := (rfl)
@[simp] theorem at1 (ws : List W) : atW ws 1 = ws[1]? := (rfl)
@[simp] theorem at2 (ws : List W) : atW ws 2 = ws[2]? := (rfl)
@[simp] theorem at3 (ws : List W) : atW ws 3 = ws[3]? := (rfl)
@[simp] theorem at4 (ws : List W) : atW ws 4 = ws[4]? := (rfl)
@[simp] theorem at5 (ws : List W) : atW ws 5 = ws[5]? := (rfl)
@[simp] theorem at6 (ws : List W) : atW ws 6 = ws[6]? := (rfl)
@[simp] theorem at7 (ws : List W) : atW ws 7 = ws[7]? := (rfl)
@[simp] theorem at8 (ws : List W) : atW ws 8 = ws[8]? := (rfl)
@[simp] theorem at9 (ws : List W) : atW ws 9 = ws[9]? := (rfl)
/-! ### frames: all objects but those of S stay as they are -/
def Mod (s : Nat → Prop) (h h' : VH) : Prop := h.length ≤ h'.length ∧ ∀ q, (hg h q).isSome = true → ¬ s q → hg h' q = hg h q
def no : Nat → Prop := fun _ => False
@[simp] theorem no_f (q : Nat) : no q = False := (rfl)
theorem Mod.rfl {s : Nat → Prop} {h : VH} : Mod s h h := ⟨Nat.le_refl _, fun _ _ _ => Eq.refl _⟩
theorem Mod.trans {s : Nat → Prop} {h h1 h2 : VH} (a : Mod s h h1) (b : Mod s h1 h2) : Mod s h h2 :=
  ⟨Nat.le_trans a.1 b.1, fun q l n => (b.2 q (by rw [a.2 q l n]; exact l) n).trans (a.2 q l n)⟩
/-- what the second part writes, where it is older than the first part's start, is among u -/
theorem Mod.seq {s t u : Nat → Prop} {h h1 h2 : VH} (a : Mod s h h1) (b : Mod t h1 h2) (i : ∀ q, q < h.length → s q → u q) (j : ∀ q, q < h.length → t q → u q) : Mod u h h2 :=
  ⟨Nat.le_trans a.1 b.1, fun q l n => by
    have e := a.2 q l fun z => n (i q (lt_hg l) z)
    exact (b.2 q (by rw [e]; exact l) (fun z => n (j q (lt_hg l) z))).trans e⟩
theorem Mod.mono {s u : Nat → Prop} {h h1 : VH} (a : Mod s h h1) (i : ∀ q, q < h.length → s q → u q) : Mod u h h1 := ⟨a.1, fun q l n => a.2 q l fun z => n (i q (lt_hg l) z)⟩
theorem Mod.of_no {u : Nat → Prop} {h h1 : VH} (a : Mod no h h1) : Mod u h h1 := a.mono fun _ _ z => z.elim
theorem Mod.new {s : Nat → Prop} {h : VH} {o : O} : Mod s h (hn h o) := ⟨by rw [hn_len]; omega, fun q l n => hg_hn l⟩
theorem Mod.set {s : Nat → Prop} {h : VH} {r : Nat} {o : O} (e : s r) : Mod s h (hs h r o) := ⟨by rw [hs_len]; omega, fun q l n => hg_ne (fun z => n (by rw [← z]; exact e))⟩
theorem Mod.get {s : Nat → Prop} {h h' : VH} (a : Mod s h h') {q : Nat} {o : O} (e : hg h q = some o) (n : ¬ s q) : hg h' q = some o := (a.2 q (by rw [e]; rfl) n).trans e
theorem Mod.lt {s : Nat → Prop} {h h' : VH} (a : Mod s h h') {q : Nat} (e : q < h.length) : q < h'.length := Nat.lt_of_lt_of_le e a.1
theorem lt_of_get {h : VH} {q : Nat} {o : O} (e : hg h q = some o) : q < h.length := lt_hg (by rw [e]; rfl)
/-! ### loops -/
def itsL (h : VH) : Its → Option (List W)
  | .ws l => some l
  | .live r => listAt h r
theorem itAt_of {h : VH} {its : Its} {l : List W} (e : itsL h its = some l) (i : Nat) : itAt h i its = some l[i]? := by
  cases its with
  | ws l' => cases e; rfl
  | live r =>
    show (match listAt h r with | some ws => _ | none => _) = _
    have e : listAt h r = some l := e
    rw [e]
theorem itLen_of {h : VH} {its : Its} {l : List W} (e : itsL h its = some l) : itLen h its = l.length := by
  cases its with
  | ws l' => cases e; rfl
  | live r =>
    show (match listAt h r with | some ws => _ | none => _) = _
    have e : listAt h r = some l := e
    rw [e]
theorem listAt_of {h : VH} {r : Nat} {l : List W} (e : hg h r = some (.lst l)) : listAt h r = some l := by
  unfold listAt
  have e : h[r]? = _ := e
  rw [e]
def After (I : Env → VH → Prop) (Q : Fl → Env → VH → Prop) : Fl → Env → VH → Prop
  | .nx, e, h => I e h
  | .ct, e, h => I e h
  | .bk, e, h => Q .nx e h
  | .rt v, e, h => Q (.rt v) e h
@[simp] theorem aft_nx (I : Env → VH → Prop) (Q : Fl → Env → VH → Prop) (e : Env) (h : VH) : After I Q .nx e h = I e h := (rfl)
@[simp] theorem aft_ct (I : Env → VH → Prop) (Q : Fl → Env → VH → Prop) (e : Env) (h : VH) : After I Q .ct e h = I e h := (rfl)
@[simp] theorem aft_bk (I : Env → VH → Prop) (Q : Fl → Env → VH → Prop) (e : Env) (h : VH) : After I Q .bk e h = Q .nx e h := (rfl)
@[simp] theorem aft_rt (I : Env → VH → Prop) (Q : Fl → Env → VH → Prop) (v : W) (e : Env) (h : VH) : After I Q (.rt v) e h = Q (.rt v) e h := (rfl)
theorem for_run {its : Its} {f : W → Env → VH → R (Fl × Env)} {l : List W} {I : Nat → Env → VH → Prop} {Q : Fl → Env → VH → Prop}
    (hl : ∀ i env h, I i env h → itsL h its = some l) (he : ∀ env h, I l.length env h → Q .nx env h)
    (hs : ∀ i w env h, l[i]? = some w → I i env h → Run (f w env h) fun r h' => After (I (i + 1)) Q r.1 r.2 h') :
    ∀ (n i : Nat) (env : Env) (h : VH), I i env h → i + n = l.length + 1 → i ≤ l.length → Run (forRun its f n i env h) fun r h' => Q r.1 r.2 h'
  | 0, i, env, h, hi, hn, hk => absurd hn (by omega)
  | n + 1, i, env, h, hi, hn, hk => by
    unfold forRun
    rw [itAt_of (hl i env h hi)]
    cases hw : l[i]? with
    | none =>
      have : l.length ≤ i := List.getElem?_eq_none_iff.mp hw
      have e : i = l.length := by omega
      subst e
      exact ⟨_, _, rfl, he _ _ hi⟩
    | some w =>
      obtain ⟨⟨fl, e'⟩, h', q1, q2⟩ := hs i w env h hw hi
      have lt := (List.getElem?_eq_some_iff.mp hw).1
      show Run ((f w env h).bind _) _
      rw [q1]
      cases fl with
      | nx => exact for_run hl he hs n (i + 1) e' h' q2 (by omega) (by omega)
      | ct => exact for_run hl he hs n (i + 1) e' h' q2 (by omega) (by omega)
      | bk => exact ⟨_, _, rfl, q2⟩
      | rt v => exact ⟨_, _, rfl, q2⟩
/-- a for: I over the turns done; Q what is left behind -/
theorem for_inv (l : List W) (I : Nat → Env → VH → Prop) (Q : Fl → Env → VH → Prop) {its : Its} {f : W → Env → VH → R (Fl × Env)} {env : Env} {h : VH} (h0 : I 0 env h)
    (hl : ∀ i env h, I i env h → itsL h its = some l) (he : ∀ env h, I l.length env h → Q .nx env h)
    (hs : ∀ i w env h, l[i]? = some w → I i env h → Run (f w env h) fun r h' => After (I (i + 1)) Q r.1 r.2 h') :
    Run (forK f env its h) fun r h' => Q r.1 r.2 h' := by
  unfold forK
  rw [itLen_of (hl _ _ _ h0)]
  exact for_run hl he hs _ 0 env h h0 (by omega) (by omega)
/-- a for without break and return -/
theorem for_all (l : List W) (I : Nat → Env → VH → Prop) {its : Its} {f : W → Env → VH → R (Fl × Env)} {env : Env} {h : VH} (h0 : I 0 env h)
    (hl : ∀ i env h, I i env h → itsL h its = some l)
    (hs : ∀ i w env h, l[i]? = some w → I i env h → Run (f w env h) fun r h' => r.1 = .nx ∧ I (i + 1) r.2 h') :
    Run (forK f env its h) fun r h' => r.1 = .nx ∧ I l.length r.2 h' :=
  for_inv l I (fun fl e h => fl = .nx ∧ I l.length e h) h0 hl (fun _ _ a => ⟨rfl, a⟩) fun i w env h hw a => (hs i w env h hw a).imp fun r h' ⟨q1, q2⟩ => by
    rcases r with ⟨fl, e⟩
    cases q1
    exact q2
theorem lc_run {its : Its} {f : W → VH → R (Option W)} {l : List W} {I : Nat → List W → VH → Prop} (hlen : l.length ≤ line)
    (hl : ∀ i acc h, I i acc h → itsL h its = some l)
    (hs : ∀ i w acc h, l[i]? = some w → I i acc h → Run (f w h) fun r h' => I (i + 1) (acc ++ r.toList) h') :
    ∀ (n i : Nat) (acc : List W) (h : VH), I i acc h → i + n = l.length + 1 → i ≤ l.length → acc.length ≤ i → Run (lcRun its f n i acc h) fun acc' h' => I l.length acc' h' ∧ acc'.length ≤ l.length
  | 0, i, acc, h, hi, hn, hk, ha => absurd hn (by omega)
  | n + 1, i, acc, h, hi, hn, hk, ha => by
    unfold lcRun
    rw [itAt_of (hl i acc h hi)]
    cases hw : l[i]? with
    | none =>
      have : l.length ≤ i := List.getElem?_eq_none_iff.mp hw
      have e : i = l.length := by omega
      subst e
      exact ⟨_, _, rfl, hi, ha⟩
    | some w =>
      obtain ⟨r, h', q1, q2⟩ := hs i w acc h hw hi
      have lt := (List.getElem?_eq_some_iff.mp hw).1
      show Run ((f w h).bind _) _
      rw [q1]
      cases r with
      | none =>
        simp only [Option.toList, List.append_nil] at q2
        exact lc_run hlen hl hs n (i + 1) acc h' q2 (by omega) (by omega) (by omega)
      | some x =>
        have q := lc_run hlen hl hs n (i + 1) (acc ++ [x]) h' q2 (by omega) (by omega) (by simp; omega)
        show Run (if acc.length < line then _ else _) _
        rw [if_pos (by omega)]
        exact q
/-- a comprehension: I over the turns done, what is gathered -/
theorem lc_inv (l : List W) (I : Nat → List W → VH → Prop) {its : Its} {f : W → VH → R (Option W)} {h : VH} (h0 : I 0 [] h) (hlen : l.length ≤ 16777216)
    (hl : ∀ i acc h, I i acc h → itsL h its = some l)
    (hs : ∀ i w acc h, l[i]? = some w → I i acc h → Run (f w h) fun r h' => I (i + 1) (acc ++ r.toList) h') :
    Run (itK its f h) fun acc' h' => I l.length acc' h' ∧ acc'.length ≤ l.length := by
  unfold itK
  rw [itLen_of (hl _ _ _ h0)]
  exact lc_run hlen hl hs _ 0 [] h h0 (by omega) (by omega) (by simp)
theorem filterMap_take {l : List W} {g : W → Option W} {i : Nat} {w : W} (e : l[i]? = some w) : (l.take (i + 1)).filterMap g = (l.take i).filterMap g ++ (g w).toList := by
  rw [List.take_add_one, List.filterMap_append, e]
  cases hg : g w <;> simp [Option.toList, hg]
theorem itsL_mod {s : Nat → Prop} {h h1 : VH} {its : Its} {l : List W} (hl : itsL h its = some l) (m : Mod s h h1) (n : ∀ r, its = .live r → ¬ s r) : itsL h1 its = some l := by
  cases its with
  | ws l' => exact hl
  | live r =>
    have hl' : listAt h r = some l := hl
    have e : hg h r = some (.lst l) := by
      unfold listAt at hl'
      split at hl'
      · rename_i e; cases hl'; exact e
      · cases hl'
    exact listAt_of (m.get e (n r rfl))
/-- a comprehension whose turns write nothing old: what g says of each -/
theorem lc_pure (l : List W) (g : W → Option W) {its : Its} {f : W → VH → R (Option W)} {h : VH} (hl : itsL h its = some l) (hlen : l.length ≤ 16777216)
    (hs : ∀ w h1, w ∈ l → Mod no h h1 → Run (f w h1) fun r h' => r = g w ∧ Mod no h1 h') : Run (itK its f h) fun acc h' => acc = l.filterMap g ∧ Mod no h h' := by
  refine (lc_inv l (fun i acc h1 => acc = (l.take i).filterMap g ∧ Mod no h h1) (its := its) (f := f) (h := h) ⟨by simp, .rfl⟩ hlen (fun i acc h1 ⟨_, m⟩ => itsL_mod hl m (fun _ _ z => z)) (fun i w acc h1 hw ⟨e, m⟩ => ?_)).imp ?_
  · refine (hs w h1 (List.mem_of_getElem? hw) m).imp fun r h' ⟨p1, p2⟩ => ⟨?_, m.trans p2⟩
    rw [e, p1, filterMap_take hw]
  · rintro acc h' ⟨⟨q2, q3⟩, q4⟩
    rw [List.take_length] at q2
    exact ⟨q2, q3⟩
theorem filterMap_some' (l : List W) (g : W → W) : l.filterMap (fun w => some (g w)) = l.map g := by
  induction l with
  | nil => rfl
  | cons a l ih => simp [ih]
theorem lc_map (l : List W) (g : W → W) {its : Its} {f : W → VH → R (Option W)} {h : VH} (hl : itsL h its = some l) (hlen : l.length ≤ 16777216)
    (hs : ∀ w h1, w ∈ l → Mod no h h1 → Run (f w h1) fun r h' => r = some (g w) ∧ Mod no h1 h') : Run (itK its f h) fun acc h' => acc = l.map g ∧ Mod no h h' := by
  rw [← filterMap_some' l g]
  exact lc_pure l _ hl hlen hs
/-- a comprehension over what stands for xs -/
theorem lc_filx {α : Type} (xs : List α) (f' : α → W) (g : α → Option W) {its : Its} {f : W → VH → R (Option W)} {h : VH} (hl : itsL h its = some (xs.map f')) (hlen : xs.length ≤ 16777216)
    (hs : ∀ x h1, x ∈ xs → Mod no h h1 → Run (f (f' x) h1) fun r h' => r = g x ∧ Mod no h1 h') : Run (itK its f h) fun acc h' => acc = xs.filterMap g ∧ Mod no h h' := by
  refine (lc_inv (xs.map f') (fun i acc h1 => acc = (xs.take i).filterMap g ∧ Mod no h h1) (its := its) (f := f) (h := h) ⟨by simp, .rfl⟩ (by simpa using hlen) (fun i acc h1 ⟨_, m⟩ => itsL_mod hl m (fun _ _ z => z)) (fun i w acc h1 hw ⟨e, m⟩ => ?_)).imp ?_
  · rw [List.getElem?_map] at hw
    cases hx : xs[i]? with
    | none => rw [hx] at hw; cases hw
    | some x =>
      rw [hx] at hw
      cases hw
      refine (hs x h1 (List.mem_of_getElem? hx) m).imp fun r h' ⟨p1, p2⟩ => ⟨?_, m.trans p2⟩
      rw [e, p1, List.take_add_one, List.filterMap_append, hx]
      cases hg : g x <;> simp [Option.toList, hg]
  · rintro acc h' ⟨⟨q2, q3⟩, q4⟩
    rw [List.length_map, List.take_length] at q2
    exact ⟨q2, q3⟩
theorem lc_mapx {α : Type} (xs : List α) (f' : α → W) (g : α → W) {its : Its} {f : W → VH → R (Option W)} {h : VH} (hl : itsL h its = some (xs.map f')) (hlen : xs.length ≤ 16777216)
    (hs : ∀ x h1, x ∈ xs → Mod no h h1 → Run (f (f' x) h1) fun r h' => r = some (g x) ∧ Mod no h1 h') : Run (itK its f h) fun acc h' => acc = xs.map g ∧ Mod no h h' := by
  have e : xs.map g = xs.filterMap fun x => some (g x) := by
    clear hs hl hlen
    induction xs with
    | nil => rfl
    | cons a l ih => simp
  rw [e]
  exact lc_filx xs f' _ hl hlen hs
theorem range_at {lo hi : Int} {i : Nat} {w : W} (e : (rangeW lo hi)[i]? = some w) : w = .int (lo + i) ∧ lo + i < hi := by
  unfold rangeW at e
  rw [List.getElem?_map] at e
  cases hh : (List.range (hi - lo).toNat)[i]? with
  | none => rw [hh] at e; cases e
  | some k =>
    rw [hh] at e
    obtain ⟨lt, ek⟩ := List.getElem?_eq_some_iff.mp hh
    rw [List.length_range] at lt
    rw [List.getElem_range] at ek
    subst ek
    cases e
    exact ⟨rfl, by omega⟩
theorem range_len {lo hi : Int} : (rangeW lo hi).length = (hi - lo).toNat := by simp [rangeW]
end Nw

set_option Elab.async false
set_option linter.all false
set_option maxRecDepth 100000
set_option maxHeartbeats 4000000
/-! Nw, part L: equal data. -/
namespace Nw
open PySem PySem.Spec PyProof.Rows L2
/-- data without refs, n deep -/
def layW : Nat → W → Bool
  | _, .non => true
  | _, .bl _ => true
  | _, .int _ => true
  | _, .str s => s.cps.all (· < 0x110000)
  | n + 1, .tup ws => ws.all (layW n)
  | _, _ => false
@[simp] theorem lay_n (n : Nat) : layW n .non = true := by cases n <;> rfl
@[simp] theorem lay_b (n : Nat) (b : Bool) : layW n (.bl b) = true := by cases n <;> rfl
@[simp] theorem lay_i (n : Nat) (i : Int) : layW n (.int i) = true := by cases n <;> rfl
@[simp] theorem lay_s (n : Nat) (s : List Nat) : layW n (.str (S s)) = s.all (· < 0x110000) := by cases n <;> simp [layW, S]
@[simp] theorem lay_t (n : Nat) (ws : List W) : layW (n + 1) (.tup ws) = ws.all (layW n) := rfl
theorem lays_dat {n : Nat} (f : ∀ w, layW n w = true → ∃ d, datP w = some d ∧ d.canLay0 = true ∧ d.depth ≤ n) : ∀ ws : List W, ws.all (layW n) = true → ∃ ds, datPs ws = some ds ∧ PyData.canLayAll0 ds = true ∧ PyData.depthAll ds ≤ n
  | [], _ => ⟨[], rfl, rfl, Nat.zero_le _⟩
  | w :: ws, h => by
    simp only [List.all_cons, Bool.and_eq_true] at h
    obtain ⟨d, d1, d2, d3⟩ := f w h.1
    obtain ⟨ds, e1, e2, e3⟩ := lays_dat f ws h.2
    refine ⟨d :: ds, by simp [datPs, d1, e1], by simp [PyData.canLayAll0, d2, e2], ?_⟩
    simp only [PyData.depthAll]
    omega
theorem lay_dat : ∀ (n : Nat) (w : W), layW n w = true → ∃ d, datP w = some d ∧ d.canLay0 = true ∧ d.depth ≤ n
  | n, .non, _ => ⟨_, rfl, rfl, Nat.zero_le _⟩
  | n, .bl b, _ => ⟨_, rfl, rfl, Nat.zero_le _⟩
  | n, .int i, _ => ⟨_, rfl, rfl, Nat.zero_le _⟩
  | n, .str s, h => by
    have h' : s.cps.all (· < 0x110000) = true := by cases n <;> exact h
    exact ⟨.str s, by simp only [datP, h', if_true], h', Nat.zero_le _⟩
  | n + 1, .tup ws, h => by
    obtain ⟨ds, e1, e2, e3⟩ := lays_dat (lay_dat n) ws h
    refine ⟨.tuple ds, by simp [datP, e1], e2, ?_⟩
    simp only [PyData.depth]
    omega
  | 0, .tup ws, h => by cases h
  | 0, .rol ws, h => by cases h
  | _ + 1, .rol ws, h => by cases h
  | 0, .ref ws, h => by cases h
  | _ + 1, .ref ws, h => by cases h
theorem allSome_of {α β : Type} {f g : α → Option β} : ∀ {l : List α} {ds : List β}, (∀ a ∈ l, ∀ d, g a = some d → f a = some d) → allSome g l = some ds → allSome f l = some ds
  | [], _, _, h => h
  | a :: l, ds, hf, h => by
    unfold allSome at h ⊢
    cases ha : g a with
    | none => rw [ha] at h; cases h
    | some d =>
      cases hr : allSome g l with
      | none => rw [ha, hr] at h; cases h
      | some ds' =>
        rw [ha, hr] at h
        rw [hf a (List.mem_cons_self ..) d ha, allSome_of (fun a m d e => hf a (List.mem_cons_of_mem _ m) d e) hr]
        exact h
theorem datPs_all : ∀ ws : List W, datPs ws = allSome datP ws
  | [] => rfl
  | w :: ws => by
    unfold datPs allSome
    rw [datPs_all ws]
    cases datP w <;> cases allSome datP ws <;> rfl
/-- what has no ref is the same in each heap -/
theorem datW_P (h : VH) : ∀ (n : Nat) (w : W) (d : PyData), datP w = some d → datW h n w = some d
  | 0, w, d, e => e
  | n + 1, .non, d, e => e
  | n + 1, .bl b, d, e => e
  | n + 1, .int b, d, e => e
  | n + 1, .str b, d, e => e
  | n + 1, .tup ws, d, e => by
    simp only [datP, datPs_all] at e
    show (allSome (datW h n) ws).map _ = _
    cases hr : allSome datP ws with
    | none => rw [hr] at e; cases e
    | some ds => rw [hr] at e; rw [allSome_of (fun a _ d q => datW_P h n a d q) hr]; exact e
  | n + 1, .rol ws, d, e => by
    simp only [datP, datPs_all] at e
    show (allSome (datW h n) ws).map _ = _
    cases hr : allSome datP ws with
    | none => rw [hr] at e; cases e
    | some ds => rw [hr] at e; rw [allSome_of (fun a _ d q => datW_P h n a d q) hr]; exact e
  | n + 1, .ref r, d, e => by cases e
theorem shaped_of' {d : PyData} (h1 : d.canLay0 = true) (h2 : d.depth ≤ 60) : SeqAt.shaped d = true := by
  unfold SeqAt.shaped
  rw [h1, decide_eq_true (by omega)]; rfl
theorem eqD_self {h : VH} {w : W} (l : layW 50 w = true) : eqD h w w = some true := by
  obtain ⟨d, e1, e2, e3⟩ := lay_dat 50 w l
  unfold eqD
  rw [datW_P h 12 w d e1]
  have := shaped_of' e2 (by omega)
  show (if _ then _ else _) = _
  rw [if_pos ⟨this, this⟩, SeqAt.eqv_refl d e2]
theorem eqW_tup {h : VH} {ws : List W} (l : ws.all (layW 49) = true) : eqW h (.tup ws) (.tup ws) = some true := eqD_self (h := h) (w := .tup ws) l
theorem dat_lst {h : VH} {a : Nat} {ws : List W} (l : ws.all (layW 50) = true) (ha : hg h a = some (.lst ws)) : ∃ ds, datW h 12 (.ref a) = some (.list ds) ∧ datPs ws = some ds ∧ PyData.canLayAll0 ds = true ∧ PyData.depthAll ds ≤ 50 := by
  obtain ⟨ds, e1, e2, e3⟩ := lays_dat (lay_dat 50) ws l
  refine ⟨ds, ?_, e1, e2, e3⟩
  show (match listAt h a with | some ws => (allSome (datW h 11) ws).map PyData.list | none => none) = _
  rw [listAt_of ha]
  rw [datPs_all] at e1
  show (allSome (datW h 11) ws).map PyData.list = _
  rw [allSome_of (fun a _ d q => datW_P h 11 a d q) e1]
  rfl
theorem eqW_lst {h : VH} {a b : Nat} {ws : List W} (l : ws.all (layW 50) = true) (ha : hg h a = some (.lst ws)) (hb : hg h b = some (.lst ws)) : eqW h (.ref a) (.ref b) = some true := by
  obtain ⟨ds, e1, e2, e3, e4⟩ := dat_lst l ha
  obtain ⟨ds', f1, f2, _⟩ := dat_lst l hb
  rw [e2] at f2
  cases f2
  show eqD h _ _ = _
  unfold eqD
  rw [e1, f1]
  have : SeqAt.shaped (.list ds) = true := shaped_of' e3 (by simp only [PyData.depth]; omega)
  show (if _ then _ else _) = _
  rw [if_pos ⟨this, this⟩, SeqAt.eqv_refl (.list ds) e3]
theorem hg_new' {h : VH} {o : O} : hg (hn h o) (nx h 0) = some o := by simp
theorem lc_none {l : List W} {its : Its} {f : W → VH → R (Option W)} {h : VH} (hl : itsL h its = some l) (hlen : l.length ≤ 16777216)
    (hs : ∀ (i : Nat) (w : W) (h1 : VH), l[i]? = some w → Mod no h h1 → Run (f w h1) fun r h' => r = none ∧ Mod no h1 h') : Run (itK its f h) fun acc h' => acc = [] ∧ Mod no h h' := by
  refine (lc_inv l (fun i acc h1 => acc = [] ∧ Mod no h h1) (its := its) (f := f) (h := h) ⟨rfl, .rfl⟩ hlen (fun i acc h1 ⟨_, m⟩ => itsL_mod hl m (fun _ _ z => z)) (fun i w acc h1 hw ⟨e, m⟩ => ?_)).imp ?_
  · refine (hs i w h1 hw m).imp fun r h' ⟨p1, p2⟩ => ⟨?_, m.trans p2⟩
    rw [e, p1]; rfl
  · rintro acc h' ⟨⟨q2, q3⟩, q4⟩
    exact ⟨q2, q3⟩
theorem z_itl' {h : VH} {r : Nat} {x : List W} (e : hg h r = some (.lst x)) : itsL h (.live r) = some x := listAt_of e
@[simp] theorem strW_S (l : List Nat) : strW (S l) = l.map fun c => .str (S [c]) := by
  unfold strW S
  simp
@[simp] theorem len_S (l : List Nat) : (S l).length = l.length := by
  show (l.toArray).size = _
  simp
@[simp] theorem is_t (h : VH) (ws : List W) : isiW h .tuple (.tup ws) = some true := (rfl)
@[simp] theorem is_l (h : VH) (ws : List W) : isiW h .list (.tup ws) = some false := (rfl)
@[simp] theorem is_s (h : VH) (s : Str) : isiW h .str (.str s) = some true := (rfl)
@[simp] theorem is_i (h : VH) (i : Int) : isiW h .int (.int i) = some true := (rfl)
@[simp] theorem is_b (h : VH) (i : Int) : isiW h .bool (.int i) = some false := (rfl)
def inO (h : VH) (a : W) : Option O → Option Bool
  | some (.dct kvs) => (keyW a).map fun k => (dget kvs k).isSome
  | some (.lst ws) => inL h a ws
  | _ => none
@[simp] theorem o_in (h : VH) (s : Str) (kvs : List (Key × W)) : inO h (.str s) (some (.dct kvs)) = some (dget kvs (.inr s)).isSome := (rfl)
@[simp] theorem o_in2 (h : VH) (s : Int) (kvs : List (Key × W)) : inO h (.int s) (some (.dct kvs)) = some (dget kvs (.inl s)).isSome := (rfl)
@[simp] theorem z_inr (h : VH) (a : W) (r : Nat) : inW h a (.ref r) = inO h a (hg h r) := by
  show (match hg h r with | some (.dct kvs) => _ | some (.lst ws) => _ | _ => _) = _
  cases hg h r with
  | none => rfl
  | some o => cases o <;> rfl
@[simp] theorem cut_1 {α : Type} (a : α) (l : List α) : cut (a :: l) (some 1) none = l := by
  unfold cut
  have e : HT.sIx (a :: l).length 0 (some 1) = 1 := by simp [HT.sIx]
  rw [e]
  simp [HT.sIx]
@[simp] theorem cut_2 {α : Type} (a b : α) (l : List α) : cut (a :: b :: l) (some 2) none = l := by
  unfold cut
  have e : HT.sIx (a :: b :: l).length 0 (some 2) = 2 := by simp [HT.sIx]
  rw [e]
  simp [HT.sIx]
theorem cut_to {α : Type} (l : List α) {k : Int} (h : 0 ≤ k) : cut l none (some k) = l.take k.toNat := by
  unfold cut
  have e : HT.sIx l.length l.length (some k) = min k.toNat l.length := by simp [HT.sIx]; omega
  rw [e]
  simp [HT.sIx, List.take_eq_take_min]
theorem cut_from {α : Type} (l : List α) {k : Int} (h : 0 ≤ k) : cut l (some k) none = l.drop k.toNat := by
  unfold cut
  have e : HT.sIx l.length 0 (some k) = min k.toNat l.length := by simp [HT.sIx]; omega
  rw [e]
  have e2 : HT.sIx l.length l.length none = l.length := rfl
  rw [e2]
  by_cases c : k.toNat ≤ l.length
  · rw [Nat.min_eq_left c]
    exact List.take_of_length_le (by simp)
  · rw [Nat.min_eq_right (by omega), List.drop_eq_nil_of_le (Nat.le_refl _), List.drop_eq_nil_of_le (by omega)]
    simp
end Nw

set_option Elab.async false
set_option linter.all false
set_option maxRecDepth 100000
set_option maxHeartbeats 0
/-! Printed by gen.py: the evaluator's form of the linked program. -/
namespace Nw
open PySem PySem.Spec PyProof.Rows L2
abbrev f_idle : Nat := 0
abbrev f_data_base : Nat := 1
abbrev f_caller : Nat := 2
abbrev f_listener : Nat := 3
abbrev f_law_draws : Nat := 4
abbrev f_law_next : Nat := 5
abbrev f_law_pick : Nat := 6
abbrev f_law_word : Nat := 7
abbrev f_law_signs : Nat := 8
abbrev f_law_operate : Nat := 9
abbrev f_law_number : Nat := 10
abbrev f_law_code_word : Nat := 11
abbrev f_law_machine : Nat := 12
abbrev f_law_met : Nat := 13
abbrev f_law_told : Nat := 14
abbrev f_law_instruction : Nat := 15
abbrev f_law_code_ran : Nat := 16
abbrev f_law_is_number : Nat := 17
abbrev f_law_is_instruction : Nat := 18
abbrev f_law_is_guest : Nat := 19
abbrev f_law_deeds : Nat := 20
abbrev f_law_is_caller : Nat := 21
abbrev f_law_is_listener : Nat := 22
abbrev f_law : Nat := 23
def b_idle : List Sm := [
  .ret (some (.tup [(.tup [(.tup [(.cst (.str (S [101, 110, 100]))), (.cst (.str (S [100, 111, 110, 101])))])]), (.cst (.int 0)), (.tup [])]))]
def b_data_base : List Sm := [
  .ret (some (.bin .mul (.bin .fdiv (.bin .sub (.bin .add (.var 0) (.gl (S [80, 65, 71, 69]))) (.cst (.int 1))) (.gl (S [80, 65, 71, 69]))) (.gl (S [80, 65, 71, 69]))))]
def e_caller_1 : E := (.tup [(.cst (.str (S [108, 111, 97, 100]))), (.gl (S [76, 79, 65, 68, 69, 68])), (.cst (.int 0)), (.bin .add (.var 2) (.bin .mul (.var 5) (.var 1)))])
def b_caller : List Sm := [
  .set (.nm 2) (.call f_data_base [(.bin .add (.var 0) (.cst (.int 2)))]),
  .set (.nm 3) (.lc e_caller_1 [5] (.nm 5) .range [(.var 0)] []),
  .set (.nm 3) (.bin .add (.var 3) (.lst [(.tup [(.cst (.str (S [114, 101, 115, 116])))]), (.tup [(.cst (.str (S [103, 111]))), (.cst (.int 0))])])),
  .set (.nm 4) (.bin .add (.bin .mul (.var 0) (.var 1)) (.cst (.int 1))),
  .ret (some (.tup [(.bi .tuple [(.var 3)]), (.var 4), (.bin .mul (.tup [(.cst (.int 0))]) (.var 4))]))]
def b_listener : List Sm := [
  .set (.nm 2) (.call f_data_base [(.cst (.int 8))]),
  .set (.nm 3) (.tup [(.tup [(.cst (.str (S [108, 111, 97, 100]))), (.gl (S [76, 79, 65, 68, 69, 68])), (.cst (.int 0)), (.bin .add (.var 2) (.var 0))]), (.tup [(.cst (.str (S [114, 101, 115, 116])))]), (.tup [(.cst (.str (S [116, 105, 109, 101]))), (.gl (S [70, 73, 82, 83, 84]))]), (.tup [(.cst (.str (S [108, 111, 97, 100]))), (.gl (S [76, 79, 65, 68, 69, 68])), (.cst (.int 0)), (.bin .add (.var 2) (.var 0))]), (.tup [(.cst (.str (S [116, 105, 109, 101]))), (.gl (S [83, 69, 67, 79, 78, 68]))]), (.tup [(.cst (.str (S [111, 112]))), (.cst (.str (S [45]))), (.cst (.int 1)), (.gl (S [83, 69, 67, 79, 78, 68])), (.gl (S [70, 73, 82, 83, 84]))]), (.tup [(.cst (.str (S [114, 101, 115, 116])))]), (.tup [(.cst (.str (S [101, 110, 100]))), (.cst (.str (S [100, 111, 110, 101])))])]),
  .set (.nm 4) (.bin .add (.bin .add (.var 0) (.bin .mul (.gl (S [80, 65, 71, 69])) (.var 1))) (.cst (.int 1))),
  .ret (some (.tup [(.var 3), (.var 4), (.bin .mul (.tup [(.cst (.int 0))]) (.var 4))]))]
def l_law_draws_2 : List Sm := [
  .ife (.cmp .gt (.var 6) (.cst (.int 0))) [
    .ex (.mth (.var 2) (S [97, 112, 112, 101, 110, 100]) [(.bin .mod (.bi .int [(.var 6)]) (.cst (.int 997)))]),
    .set (.nm 6) (.bin .fdiv (.var 6) (.cst (.int 997)))] []]
def l_law_draws_1 : List Sm := [
  .set (.nm 5) (.bi .abs [(.bi .int [(.ix (.var 0) (.var 4))])]),
  .set (.nm 3) (.bin .mod (.bi .int [(.bin .add (.bin .add (.bin .mul (.var 3) (.cst (.int 48271))) (.bin .mod (.var 5) (.cst (.int 1000003)))) (.var 4))]) (.cst (.int 65537))),
  .set (.nm 6) (.cst (.int 0)),
  .ife (.cmp .ge (.var 5) (.bin .pow (.cst (.int 10)) (.cst (.int 18)))) [
    .set (.nm 6) (.var 5)] [
    .ex (.mth (.var 2) (S [97, 112, 112, 101, 110, 100]) [(.bin .mod (.bi .int [(.var 5)]) (.cst (.int 997)))]),
    .ex (.mth (.var 2) (S [97, 112, 112, 101, 110, 100]) [(.bin .mod (.bin .mod (.bi .int [(.bin .add (.bin .mul (.var 3) (.cst (.int 69621))) (.cst (.int 5)))]) (.cst (.int 65521))) (.cst (.int 997)))])],
  .for (.nm 7) .range [(.cst (.int 60))] l_law_draws_2]
def l_law_draws_3 : List Sm := [
  .set (.nm 3) (.bin .mod (.bi .int [(.bin .add (.bin .add (.bin .mul (.var 3) (.cst (.int 16807))) (.var 4)) (.cst (.int 1)))]) (.cst (.int 65537))),
  .ex (.mth (.var 2) (S [97, 112, 112, 101, 110, 100]) [(.bin .mod (.bi .int [(.var 3)]) (.cst (.int 997)))])]
def b_law_draws : List Sm := [
  .set (.nm 2) (.lst []),
  .set (.nm 3) (.cst (.int 7)),
  .for (.nm 4) .range [(.bi .len [(.var 0)])] l_law_draws_1,
  .for (.nm 4) .range [(.var 1)] l_law_draws_3,
  .ret (some (.sl (.var 2) none (some (.var 1))))]
def b_law_next : List Sm := [
  .augS (.var 0) (.cst (.str (S [97, 116]))) .add (.cst (.int 1)),
  .ife (.cmp .gt (.ix (.var 0) (.cst (.str (S [97, 116])))) (.bi .len [(.ix (.var 0) (.cst (.str (S [100, 114, 97, 119, 115]))))])) [
    .ret (some (.cst (.int 0)))] [],
  .ret (some (.bin .mod (.bi .int [(.ix (.ix (.var 0) (.cst (.str (S [100, 114, 97, 119, 115])))) (.bin .sub (.ix (.var 0) (.cst (.str (S [97, 116])))) (.cst (.int 1))))]) (.var 1)))]
def b_law_pick : List Sm := [
  .ret (some (.ix (.var 1) (.call f_law_next [(.var 0), (.bi .len [(.var 1)])])))]
def b_law_word : List Sm := [
  .set (.nm 1) (.call f_law_next [(.var 0), (.cst (.int 8))]),
  .ife (.cmp .lt (.var 1) (.cst (.int 3))) [
    .ret (some (.call f_law_next [(.var 0), (.cst (.int 6))]))] [],
  .ife (.cmp .eq (.var 1) (.cst (.int 3))) [
    .ret (some (.call f_law_pick [(.var 0), (.lst [(.cst (.int 31)), (.cst (.int 32)), (.cst (.int 33)), (.cst (.int 65535)), (.cst (.int 65536)), (.cst (.int 2147483647)), (.cst (.int 2147483648)), (.cst (.int 4294967295))])]))] [],
  .ife (.cmp .eq (.var 1) (.cst (.int 4))) [
    .ret (some (.bin .sub (.cst (.int 4294967295)) (.call f_law_next [(.var 0), (.cst (.int 4))])))] [],
  .ife (.cmp .eq (.var 1) (.cst (.int 5))) [
    .ret (some (.call f_law_next [(.var 0), (.cst (.int 997))]))] [],
  .set (.nm 2) (.bin .add (.bin .mul (.call f_law_next [(.var 0), (.cst (.int 997))]) (.cst (.int 994009))) (.bin .mul (.call f_law_next [(.var 0), (.cst (.int 997))]) (.cst (.int 997)))),
  .ret (some (.bin .mod (.bi .int [(.bin .add (.bin .mul (.var 2) (.cst (.int 7))) (.call f_law_next [(.var 0), (.cst (.int 997))]))]) (.cst (.int 4294967296))))]
def b_law_signs : List Sm := [
  .ret (some (.tup [(.cst (.str (S [43]))), (.cst (.str (S [45]))), (.cst (.str (S [42]))), (.cst (.str (S [47]))), (.cst (.str (S [64]))), (.cst (.str (S [38]))), (.cst (.str (S [124]))), (.cst (.str (S [94]))), (.cst (.str (S [61, 61]))), (.cst (.str (S [60]))), (.cst (.str (S [60, 60]))), (.cst (.str (S [62, 62])))]))]
def b_law_operate : List Sm := [
  .ife (.cmp .eq (.var 0) (.cst (.str (S [43])))) [
    .ret (some (.bin .mod (.bi .int [(.bin .add (.var 1) (.var 2))]) (.cst (.int 4294967296))))] [],
  .ife (.cmp .eq (.var 0) (.cst (.str (S [45])))) [
    .ret (some (.bin .mod (.bi .int [(.bin .sub (.var 1) (.var 2))]) (.cst (.int 4294967296))))] [],
  .ife (.cmp .eq (.var 0) (.cst (.str (S [42])))) [
    .ret (some (.bin .mod (.bi .int [(.bin .mul (.var 1) (.var 2))]) (.cst (.int 4294967296))))] [],
  .ife (.cmp .eq (.var 0) (.cst (.str (S [47])))) [
    .ret (some (.ite (.cmp .eq (.var 2) (.cst (.int 0))) (.cst (.int 0)) (.bin .fdiv (.var 1) (.var 2))))] [],
  .ife (.cmp .eq (.var 0) (.cst (.str (S [38])))) [
    .ret (some (.bin .band (.var 1) (.var 2)))] [],
  .ife (.cmp .eq (.var 0) (.cst (.str (S [124])))) [
    .ret (some (.bin .bor (.var 1) (.var 2)))] [],
  .ife (.cmp .eq (.var 0) (.cst (.str (S [94])))) [
    .ret (some (.bin .bxor (.var 1) (.var 2)))] [],
  .ife (.cmp .eq (.var 0) (.cst (.str (S [61, 61])))) [
    .ret (some (.bi .int [(.cmp .eq (.var 1) (.var 2))]))] [],
  .ife (.cmp .eq (.var 0) (.cst (.str (S [60])))) [
    .ret (some (.bi .int [(.cmp .lt (.var 1) (.var 2))]))] [],
  .ife (.cmp .eq (.var 0) (.cst (.str (S [60, 60])))) [
    .ret (some (.ite (.cmp .gt (.var 2) (.cst (.int 31))) (.cst (.int 0)) (.bin .mod (.bi .int [(.bin .shl (.var 1) (.var 2))]) (.cst (.int 4294967296)))))] [],
  .ife (.cmp .eq (.var 0) (.cst (.str (S [62, 62])))) [
    .ret (some (.ite (.cmp .gt (.var 2) (.cst (.int 31))) (.cst (.int 0)) (.bin .shr (.var 1) (.var 2))))] [],
  .ret (some (.ite (.cmp .eq (.var 2) (.cst (.int 0))) (.var 1) (.bin .mod (.bi .int [(.var 1)]) (.var 2))))]
def b_law_number : List Sm := [
  .set (.nm 1) (.lst [(.cst (.str (S [101, 110, 100]))), (.cst (.str (S [115, 101, 116]))), (.cst (.str (S [104, 105, 103, 104]))), (.cst (.str (S [111, 112]))), (.cst (.str (S [108, 111, 97, 100]))), (.cst (.str (S [115, 116, 111, 114, 101]))), (.cst (.str (S [103, 111]))), (.cst (.str (S [117, 110, 108, 101, 115, 115]))), (.cst (.str (S [99, 97, 108, 108]))), (.cst (.str (S [98, 97, 99, 107]))), (.cst (.str (S [115, 101, 110, 100]))), (.cst (.str (S [97, 115, 107]))), (.cst (.str (S [116, 97, 107, 101]))), (.cst (.str (S [116, 105, 109, 101]))), (.cst (.str (S [114, 101, 115, 116])))]),
  .ret (some (.mth (.var 1) (S [105, 110, 100, 101, 120]) [(.var 0)]))]
def b_law_code_word : List Sm := [
  .set (.nm 1) (.ix (.var 0) (.cst (.int 0))),
  .set (.nm 2) (.bin .mul (.call f_law_number [(.var 1)]) (.cst (.int 134217728))),
  .ife (.cmp .eq (.var 1) (.cst (.str (S [101, 110, 100])))) [
    .ret (some (.bin .add (.var 2) (.bi .int [(.cmp .eq (.ix (.var 0) (.cst (.int 1))) (.cst (.str (S [98, 111, 117, 110, 100]))))])))] [],
  .ife (.cmp .eq (.var 1) (.cst (.str (S [111, 112])))) [
    .set (.nm 3) (.mth (.bi .list [(.call f_law_signs [])]) (S [105, 110, 100, 101, 120]) [(.ix (.var 0) (.cst (.int 1)))]),
    .ret (some (.bin .add (.bin .add (.bin .add (.bin .add (.var 2) (.bin .mul (.ix (.var 0) (.cst (.int 2))) (.cst (.int 16777216)))) (.bin .mul (.ix (.var 0) (.cst (.int 3))) (.cst (.int 2097152)))) (.bin .mul (.var 3) (.cst (.int 131072)))) (.ix (.var 0) (.cst (.int 4)))))] [],
  .ife (.cmp .isin (.var 1) (.tup [(.cst (.str (S [108, 111, 97, 100]))), (.cst (.str (S [115, 116, 111, 114, 101])))])) [
    .ret (some (.bin .add (.bin .add (.bin .add (.var 2) (.bin .mul (.ix (.var 0) (.cst (.int 1))) (.cst (.int 16777216)))) (.bin .mul (.ix (.var 0) (.cst (.int 2))) (.cst (.int 2097152)))) (.ix (.var 0) (.cst (.int 3)))))] [],
  .ife (.cmp .eq (.var 1) (.cst (.str (S [115, 101, 110, 100])))) [
    .ret (some (.bin .add (.bin .add (.var 2) (.bin .mul (.ix (.var 0) (.cst (.int 2))) (.cst (.int 16777216)))) (.ix (.var 0) (.cst (.int 1)))))] [],
  .ife (.cmp .isin (.var 1) (.tup [(.cst (.str (S [115, 101, 116]))), (.cst (.str (S [104, 105, 103, 104]))), (.cst (.str (S [117, 110, 108, 101, 115, 115]))), (.cst (.str (S [99, 97, 108, 108]))), (.cst (.str (S [97, 115, 107]))), (.cst (.str (S [116, 97, 107, 101])))])) [
    .ret (some (.bin .add (.bin .add (.var 2) (.bin .mul (.ix (.var 0) (.cst (.int 1))) (.cst (.int 16777216)))) (.ix (.var 0) (.cst (.int 2)))))] [],
  .ife (.cmp .isin (.var 1) (.tup [(.cst (.str (S [98, 97, 99, 107]))), (.cst (.str (S [116, 105, 109, 101])))])) [
    .ret (some (.bin .add (.var 2) (.bin .mul (.ix (.var 0) (.cst (.int 1))) (.cst (.int 16777216)))))] [],
  .ret (some (.ite (.cmp .eq (.var 1) (.cst (.str (S [103, 111])))) (.bin .add (.var 2) (.ix (.var 0) (.cst (.int 1)))) (.var 2)))]
def e_law_machine_1 : E := (.call f_law_code_word [(.var 7)])
def b_law_machine : List Sm := [
  .set (.tp [(.nm 2), (.nm 3), (.nm 4)]) (.var 0),
  .set (.nm 5) (.bin .mul (.bin .fdiv (.bin .add (.bi .len [(.var 2)]) (.cst (.int 15))) (.cst (.int 16))) (.cst (.int 16))),
  .set (.nm 6) (.bin .add (.bin .add (.lc e_law_machine_1 [7] (.nm 7) .plain [(.var 2)] []) (.bin .mul (.lst [(.cst (.int 0))]) (.bin .sub (.var 5) (.bi .len [(.var 2)])))) (.bi .list [(.var 4)])),
  .set (.nm 6) (.bin .add (.var 6) (.bin .mul (.lst [(.cst (.int 0))]) (.bin .sub (.bin .mul (.bin .fdiv (.bin .add (.bi .len [(.var 6)]) (.cst (.int 15))) (.cst (.int 16))) (.cst (.int 16))) (.bi .len [(.var 6)])))),
  .ret (some (.dct [.inr (S [99, 111, 100, 101]), .inr (S [109, 101, 109, 111, 114, 121]), .inr (S [98, 97, 115, 101]), .inr (S [114, 101, 103, 115]), .inr (S [97, 116]), .inr (S [97, 110, 115, 119, 101, 114, 115]), .inr (S [103, 105, 118, 101, 110]), .inr (S [100, 101, 101, 100, 115]), .inr (S [119, 111, 114, 100]), .inr (S [100, 111, 110, 101]), .inr (S [109, 101, 116])] [(.var 2), (.var 6), (.var 5), (.bin .mul (.lst [(.cst (.int 0))]) (.cst (.int 8))), (.cst (.int 0)), (.var 1), (.cst (.int 0)), (.lst []), (.cst (.str (S []))), (.cst (.int 0)), (.lst [])]))]
def b_law_met : List Sm := [
  .set (.tp [(.nm 2), (.nm 3)]) (.tup [(.ix (.var 0) (.cst (.str (S [114, 101, 103, 115])))), (.ix (.var 0) (.cst (.str (S [109, 101, 109, 111, 114, 121]))))]),
  .set (.nm 4) (.bin .mod (.bi .int [(.bin .add (.ix (.var 2) (.ix (.var 1) (.cst (.int 2)))) (.ix (.var 1) (.cst (.int 3))))]) (.cst (.int 4294967296))),
  .ex (.mth (.ix (.var 0) (.cst (.str (S [109, 101, 116])))) (S [97, 112, 112, 101, 110, 100]) [(.tup [(.bin .sub (.ix (.var 0) (.cst (.str (S [97, 116])))) (.cst (.int 1))), (.var 4)])]),
  .ife (.or [(.cmp .ge (.var 4) (.bi .len [(.var 3)])), (.and [(.cmp .eq (.ix (.var 1) (.cst (.int 0))) (.cst (.str (S [115, 116, 111, 114, 101])))), (.cmp .lt (.var 4) (.ix (.var 0) (.cst (.str (S [98, 97, 115, 101])))))])]) [
    .set (.sub (.var 0) (.cst (.str (S [119, 111, 114, 100])))) (.cst (.str (S [102, 97, 117, 108, 116])))] [
    .ife (.cmp .eq (.ix (.var 1) (.cst (.int 0))) (.cst (.str (S [108, 111, 97, 100])))) [
      .set (.sub (.var 2) (.ix (.var 1) (.cst (.int 1)))) (.ix (.var 3) (.var 4))] [
      .set (.sub (.var 3) (.var 4)) (.ix (.var 2) (.ix (.var 1) (.cst (.int 1))))]]]
def b_law_told : List Sm := [
  .set (.nm 2) (.ix (.var 0) (.cst (.str (S [114, 101, 103, 115])))),
  .ife (.cmp .eq (.ix (.var 1) (.cst (.int 0))) (.cst (.str (S [115, 101, 110, 100])))) [
    .ex (.mth (.ix (.var 0) (.cst (.str (S [100, 101, 101, 100, 115])))) (S [97, 112, 112, 101, 110, 100]) [(.tup [(.cst (.str (S [115, 101, 110, 100]))), (.ix (.var 1) (.cst (.int 1))), (.ix (.var 2) (.ix (.var 1) (.cst (.int 2))))])])] [
    .ife (.cmp .eq (.ix (.var 1) (.cst (.int 0))) (.cst (.str (S [114, 101, 115, 116])))) [
      .ex (.mth (.ix (.var 0) (.cst (.str (S [100, 101, 101, 100, 115])))) (S [97, 112, 112, 101, 110, 100]) [(.tup [(.cst (.str (S [114, 101, 115, 116])))])])] [
      .ife (.cmp .eq (.ix (.var 0) (.cst (.str (S [103, 105, 118, 101, 110])))) (.bi .len [(.ix (.var 0) (.cst (.str (S [97, 110, 115, 119, 101, 114, 115]))))])) [
        .set (.sub (.var 0) (.cst (.str (S [119, 111, 114, 100])))) (.cst (.str (S [111, 112, 101, 110])))] [
        .set (.nm 3) (.ix (.ix (.var 0) (.cst (.str (S [97, 110, 115, 119, 101, 114, 115])))) (.ix (.var 0) (.cst (.str (S [103, 105, 118, 101, 110]))))),
        .augS (.var 0) (.cst (.str (S [103, 105, 118, 101, 110]))) .add (.cst (.int 1)),
        .set (.sub (.var 2) (.ix (.var 1) (.cst (.int 1)))) (.var 3),
        .ex (.mth (.ix (.var 0) (.cst (.str (S [100, 101, 101, 100, 115])))) (S [97, 112, 112, 101, 110, 100]) [(.ite (.cmp .eq (.ix (.var 1) (.cst (.int 0))) (.cst (.str (S [116, 105, 109, 101])))) (.tup [(.cst (.str (S [116, 105, 109, 101]))), (.var 3)]) (.tup [(.ix (.var 1) (.cst (.int 0))), (.ix (.var 1) (.cst (.int 2))), (.var 3)]))])]]]]
def b_law_instruction : List Sm := [
  .set (.tp [(.nm 2), (.nm 3)]) (.tup [(.ix (.var 1) (.cst (.int 0))), (.ix (.var 0) (.cst (.str (S [114, 101, 103, 115]))))]),
  .augS (.var 0) (.cst (.str (S [97, 116]))) .add (.cst (.int 1)),
  .ife (.cmp .eq (.var 2) (.cst (.str (S [115, 101, 116])))) [
    .set (.sub (.var 3) (.ix (.var 1) (.cst (.int 1)))) (.ix (.var 1) (.cst (.int 2)))] [
    .ife (.cmp .eq (.var 2) (.cst (.str (S [104, 105, 103, 104])))) [
      .set (.sub (.var 3) (.ix (.var 1) (.cst (.int 1)))) (.bin .add (.bin .mul (.ix (.var 1) (.cst (.int 2))) (.cst (.int 65536))) (.bin .mod (.bi .int [(.ix (.var 3) (.ix (.var 1) (.cst (.int 1))))]) (.cst (.int 65536))))] [
      .ife (.cmp .eq (.var 2) (.cst (.str (S [111, 112])))) [
        .set (.sub (.var 3) (.ix (.var 1) (.cst (.int 2)))) (.call f_law_operate [(.ix (.var 1) (.cst (.int 1))), (.ix (.var 3) (.ix (.var 1) (.cst (.int 3)))), (.ix (.var 3) (.ix (.var 1) (.cst (.int 4))))])] [
        .ife (.cmp .isin (.var 2) (.tup [(.cst (.str (S [108, 111, 97, 100]))), (.cst (.str (S [115, 116, 111, 114, 101])))])) [
          .ex (.call f_law_met [(.var 0), (.var 1)])] [
          .ife (.cmp .eq (.var 2) (.cst (.str (S [103, 111])))) [
            .set (.sub (.var 0) (.cst (.str (S [97, 116])))) (.ix (.var 1) (.cst (.int 1)))] [
            .ife (.cmp .eq (.var 2) (.cst (.str (S [117, 110, 108, 101, 115, 115])))) [
              .ife (.cmp .eq (.ix (.var 3) (.ix (.var 1) (.cst (.int 1)))) (.cst (.int 0))) [
                .set (.sub (.var 0) (.cst (.str (S [97, 116])))) (.ix (.var 1) (.cst (.int 2)))] []] [
              .ife (.cmp .eq (.var 2) (.cst (.str (S [99, 97, 108, 108])))) [
                .set (.sub (.var 3) (.ix (.var 1) (.cst (.int 1)))) (.ix (.var 0) (.cst (.str (S [97, 116])))),
                .set (.sub (.var 0) (.cst (.str (S [97, 116])))) (.ix (.var 1) (.cst (.int 2)))] [
                .ife (.cmp .eq (.var 2) (.cst (.str (S [98, 97, 99, 107])))) [
                  .set (.sub (.var 0) (.cst (.str (S [97, 116])))) (.ix (.var 3) (.ix (.var 1) (.cst (.int 1))))] [
                  .ife (.cmp .eq (.var 2) (.cst (.str (S [101, 110, 100])))) [
                    .set (.sub (.var 0) (.cst (.str (S [119, 111, 114, 100])))) (.ix (.var 1) (.cst (.int 1)))] [
                    .ex (.call f_law_told [(.var 0), (.var 1)])]]]]]]]]],
  .set (.sub (.var 3) (.cst (.int 0))) (.cst (.int 0))]
def l_law_code_ran_1 : List Sm := [
  .ife (.and [(.cmp .eq (.ix (.var 3) (.cst (.str (S [119, 111, 114, 100])))) (.cst (.str (S [])))), (.cmp .ge (.ix (.var 3) (.cst (.str (S [97, 116])))) (.bi .len [(.ix (.var 0) (.cst (.int 0)))]))]) [
    .set (.sub (.var 3) (.cst (.str (S [119, 111, 114, 100])))) (.cst (.str (S [102, 97, 117, 108, 116])))] [],
  .ife (.cmp .ne (.ix (.var 3) (.cst (.str (S [119, 111, 114, 100])))) (.cst (.str (S [])))) [
    .brk] [],
  .ex (.mth (.ix (.var 3) (.cst (.str (S [109, 101, 116])))) (S [97, 112, 112, 101, 110, 100]) [(.tup [(.ix (.var 3) (.cst (.str (S [97, 116])))), (.neg (.cst (.int 1)))])]),
  .ex (.call f_law_instruction [(.var 3), (.ix (.ix (.var 0) (.cst (.int 0))) (.ix (.var 3) (.cst (.str (S [97, 116])))))]),
  .augS (.var 3) (.cst (.str (S [100, 111, 110, 101]))) .add (.cst (.int 1))]
def b_law_code_ran : List Sm := [
  .set (.nm 3) (.call f_law_machine [(.var 0), (.var 1)]),
  .for (.nm 4) .range [(.var 2)] l_law_code_ran_1,
  .ife (.cmp .eq (.ix (.var 3) (.cst (.str (S [119, 111, 114, 100])))) (.cst (.str (S [])))) [
    .set (.sub (.var 3) (.cst (.str (S [119, 111, 114, 100])))) (.cst (.str (S [115, 116, 101, 112, 115])))] [],
  .ret (some (.var 3))]
def b_law_is_number : List Sm := [
  .ret (some (.and [(.isi (.var 0) .int), (.nt (.isi (.var 0) .bool)), (.chn .le .lt (.cst (.int 0)) (.var 0) (.var 1))]))]
def e_law_is_instruction_1 : E := (.ite (.cmp .eq (.var 4) (.cst (.str (S [114])))) (.cst (.int 8)) (.cst (.int 65536)))
def e_law_is_instruction_2 : E := (.var 5)
def t_law_is_instruction_2 : List E := [(.nt (.call f_law_is_number [(.ix (.var 1) (.var 5)), (.ix (.var 3) (.var 5))]))]
def b_law_is_instruction : List Sm := [
  .ife (.or [(.nt (.isi (.var 0) .tuple)), (.cmp .eq (.bi .len [(.var 0)]) (.cst (.int 0))), (.nt (.isi (.ix (.var 0) (.cst (.int 0))) .str))]) [
    .ret (some (.cst (.bl false)))] [],
  .set (.nm 1) (.sl (.var 0) (some (.cst (.int 1))) none),
  .ife (.cmp .eq (.ix (.var 0) (.cst (.int 0))) (.cst (.str (S [111, 112])))) [
    .ife (.or [(.cmp .ne (.bi .len [(.var 0)]) (.cst (.int 5))), (.nt (.isi (.ix (.var 0) (.cst (.int 1))) .str)), (.cmp .notin (.ix (.var 0) (.cst (.int 1))) (.call f_law_signs []))]) [
      .ret (some (.cst (.bl false)))] [],
    .set (.nm 1) (.sl (.var 0) (some (.cst (.int 2))) none)] [],
  .ife (.cmp .eq (.ix (.var 0) (.cst (.int 0))) (.cst (.str (S [101, 110, 100])))) [
    .ret (some (.and [(.cmp .eq (.bi .len [(.var 0)]) (.cst (.int 2))), (.isi (.ix (.var 0) (.cst (.int 1))) .str), (.cmp .isin (.ix (.var 0) (.cst (.int 1))) (.tup [(.cst (.str (S [100, 111, 110, 101]))), (.cst (.str (S [98, 111, 117, 110, 100])))]))]))] [],
  .set (.nm 2) (.dct [.inr (S [115, 101, 116]), .inr (S [104, 105, 103, 104]), .inr (S [111, 112]), .inr (S [108, 111, 97, 100]), .inr (S [115, 116, 111, 114, 101]), .inr (S [103, 111]), .inr (S [117, 110, 108, 101, 115, 115]), .inr (S [99, 97, 108, 108]), .inr (S [98, 97, 99, 107]), .inr (S [115, 101, 110, 100]), .inr (S [97, 115, 107]), .inr (S [116, 97, 107, 101]), .inr (S [116, 105, 109, 101]), .inr (S [114, 101, 115, 116])] [(.cst (.str (S [114, 110]))), (.cst (.str (S [114, 110]))), (.cst (.str (S [114, 114, 114]))), (.cst (.str (S [114, 114, 110]))), (.cst (.str (S [114, 114, 110]))), (.cst (.str (S [110]))), (.cst (.str (S [114, 110]))), (.cst (.str (S [114, 110]))), (.cst (.str (S [114]))), (.cst (.str (S [114, 114]))), (.cst (.str (S [114, 114]))), (.cst (.str (S [114, 114]))), (.cst (.str (S [114]))), (.cst (.str (S [])))]),
  .ife (.or [(.cmp .notin (.ix (.var 0) (.cst (.int 0))) (.var 2)), (.cmp .ne (.bi .len [(.var 1)]) (.bi .len [(.ix (.var 2) (.ix (.var 0) (.cst (.int 0))))]))]) [
    .ret (some (.cst (.bl false)))] [],
  .set (.nm 3) (.lc e_law_is_instruction_1 [4] (.nm 4) .plain [(.ix (.var 2) (.ix (.var 0) (.cst (.int 0))))] []),
  .ret (some (.cmp .eq (.lc e_law_is_instruction_2 [5] (.nm 5) .range [(.bi .len [(.var 1)])] t_law_is_instruction_2) (.lst [])))]
def e_law_is_guest_1 : E := (.var 1)
def t_law_is_guest_1 : List E := [(.nt (.call f_law_is_number [(.var 1), (.cst (.int 4294967296))]))]
def e_law_is_guest_2 : E := (.var 2)
def t_law_is_guest_2 : List E := [(.nt (.call f_law_is_instruction [(.var 2)]))]
def b_law_is_guest : List Sm := [
  .ife (.or [(.nt (.isi (.var 0) .tuple)), (.cmp .ne (.bi .len [(.var 0)]) (.cst (.int 3))), (.nt (.isi (.ix (.var 0) (.cst (.int 0))) .tuple)), (.nt (.isi (.ix (.var 0) (.cst (.int 2))) .tuple))]) [
    .ret (some (.cst (.bl false)))] [],
  .ife (.or [(.nt (.chn .le .le (.cst (.int 1)) (.bi .len [(.ix (.var 0) (.cst (.int 0)))]) (.cst (.int 30000)))), (.nt (.call f_law_is_number [(.ix (.var 0) (.cst (.int 1))), (.cst (.int 1001))])), (.cmp .ne (.bi .len [(.ix (.var 0) (.cst (.int 2)))]) (.ix (.var 0) (.cst (.int 1))))]) [
    .ret (some (.cst (.bl false)))] [],
  .ife (.cmp .ne (.lc e_law_is_guest_1 [1] (.nm 1) .plain [(.ix (.var 0) (.cst (.int 2)))] t_law_is_guest_1) (.lst [])) [
    .ret (some (.cst (.bl false)))] [],
  .ret (some (.cmp .eq (.lc e_law_is_guest_2 [2] (.nm 2) .plain [(.ix (.var 0) (.cst (.int 0)))] t_law_is_guest_2) (.lst [])))]
def l_law_deeds_1 : List Sm := [
  .set (.nm 5) (.ix (.ix (.ix (.var 0) (.cst (.int 0))) (.var 3)) (.cst (.int 0))),
  .ife (.cmp .ge (.var 4) (.cst (.int 0))) [
    .ex (.mth (.var 2) (S [97, 112, 112, 101, 110, 100]) [(.tup [(.var 5), (.var 4)])])] [
    .ife (.cmp .notin (.var 5) (.tup [(.cst (.str (S [108, 111, 97, 100]))), (.cst (.str (S [115, 116, 111, 114, 101]))), (.cst (.str (S [115, 101, 116]))), (.cst (.str (S [104, 105, 103, 104]))), (.cst (.str (S [111, 112]))), (.cst (.str (S [103, 111]))), (.cst (.str (S [117, 110, 108, 101, 115, 115]))), (.cst (.str (S [99, 97, 108, 108]))), (.cst (.str (S [98, 97, 99, 107]))), (.cst (.str (S [101, 110, 100])))])) [
      .ex (.mth (.var 2) (S [97, 112, 112, 101, 110, 100]) [(.tup [(.var 5)])])] []]]
def b_law_deeds : List Sm := [
  .set (.nm 2) (.lst []),
  .for (.tp [(.nm 3), (.nm 4)]) .plain [(.ix (.var 1) (.cst (.str (S [109, 101, 116]))))] l_law_deeds_1,
  .ret (some (.var 2))]
def e_law_is_caller_1 : E := (.tup [(.cst (.str (S [108, 111, 97, 100]))), (.bin .add (.var 4) (.bin .mul (.var 6) (.var 2)))])
def b_law_is_caller : List Sm := [
  .ife (.or [(.nt (.call f_law_is_guest [(.var 0)])), (.cmp .ne (.ix (.var 0) (.cst (.int 1))) (.bin .add (.bin .mul (.var 1) (.var 2)) (.cst (.int 1)))), (.cmp .ne (.ix (.var 0) (.cst (.int 2))) (.bin .mul (.tup [(.cst (.int 0))]) (.ix (.var 0) (.cst (.int 1)))))]) [
    .ret (some (.cst (.bl false)))] [],
  .set (.nm 3) (.call f_law_code_ran [(.var 0), (.tup []), (.bin .mul (.cst (.int 2)) (.bin .add (.bin .mul (.cst (.int 8)) (.var 1)) (.cst (.int 8))))]),
  .set (.nm 4) (.bin .mul (.bin .fdiv (.bin .add (.bi .len [(.ix (.var 0) (.cst (.int 0)))]) (.cst (.int 15))) (.cst (.int 16))) (.cst (.int 16))),
  .set (.nm 5) (.bin .add (.lc e_law_is_caller_1 [6] (.nm 6) .range [(.var 1)] []) (.lst [(.tup [(.cst (.str (S [114, 101, 115, 116])))])])),
  .ret (some (.cmp .eq (.sl (.call f_law_deeds [(.var 0), (.var 3)]) none (some (.bin .add (.bin .mul (.cst (.int 2)) (.var 1)) (.cst (.int 2))))) (.bin .add (.var 5) (.var 5))))]
def l_law_is_listener_1 : List Sm := [
  .set (.nm 5) (.call f_law_code_ran [(.var 1), (.var 4), (.var 7)]),
  .ife (.cmp .eq (.bi .len [(.ix (.var 5) (.cst (.str (S [100, 101, 101, 100, 115]))))]) (.cst (.int 4))) [
    .ret (some (.cmp .eq (.ix (.ix (.var 5) (.cst (.str (S [114, 101, 103, 115])))) (.cst (.int 1))) (.bin .mod (.bi .int [(.bin .sub (.ix (.var 4) (.cst (.int 1))) (.ix (.var 4) (.cst (.int 0))))]) (.cst (.int 4294967296)))))] []]
def b_law_is_listener : List Sm := [
  .ife (.or [(.nt (.call f_law_is_guest [(.var 1)])), (.cmp .lt (.ix (.var 1) (.cst (.int 1))) (.bin .add (.var 2) (.bin .mul (.cst (.int 16)) (.var 3)))), (.cmp .ne (.ix (.var 1) (.cst (.int 2))) (.bin .mul (.tup [(.cst (.int 0))]) (.ix (.var 1) (.cst (.int 1)))))]) [
    .ret (some (.cst (.bl false)))] [],
  .set (.nm 4) (.tup [(.call f_law_word [(.var 0)]), (.call f_law_word [(.var 0)])]),
  .set (.nm 5) (.call f_law_code_ran [(.var 1), (.var 4), (.cst (.int 40))]),
  .set (.nm 6) (.tup [(.cst (.str (S [108, 111, 97, 100]))), (.bin .add (.bin .mul (.bin .fdiv (.bin .add (.bi .len [(.ix (.var 1) (.cst (.int 0)))]) (.cst (.int 15))) (.cst (.int 16))) (.cst (.int 16))) (.var 2))]),
  .ife (.or [(.cmp .ne (.call f_law_deeds [(.var 1), (.var 5)]) (.lst [(.var 6), (.tup [(.cst (.str (S [114, 101, 115, 116])))]), (.tup [(.cst (.str (S [116, 105, 109, 101])))]), (.var 6), (.tup [(.cst (.str (S [116, 105, 109, 101])))]), (.tup [(.cst (.str (S [114, 101, 115, 116])))])])), (.cmp .notin (.ix (.var 5) (.cst (.str (S [119, 111, 114, 100])))) (.tup [(.cst (.str (S [100, 111, 110, 101]))), (.cst (.str (S [98, 111, 117, 110, 100])))]))]) [
    .ret (some (.cst (.bl false)))] [],
  .ife (.cmp .ne (.ix (.var 5) (.cst (.str (S [100, 101, 101, 100, 115])))) (.lst [(.tup [(.cst (.str (S [114, 101, 115, 116])))]), (.tup [(.cst (.str (S [116, 105, 109, 101]))), (.ix (.var 4) (.cst (.int 0)))]), (.tup [(.cst (.str (S [116, 105, 109, 101]))), (.ix (.var 4) (.cst (.int 1)))]), (.tup [(.cst (.str (S [114, 101, 115, 116])))])])) [
    .ret (some (.cst (.bl false)))] [],
  .for (.nm 7) .range [(.cst (.int 40))] l_law_is_listener_1,
  .ret (some (.cst (.bl false)))]
def b_law : List Sm := [
  .set (.nm 1) (.dct [.inr (S [100, 114, 97, 119, 115]), .inr (S [97, 116])] [(.call f_law_draws [(.var 0), (.cst (.int 200))]), (.cst (.int 0))]),
  .set (.nm 2) (.bin .add (.cst (.int 1)) (.call f_law_next [(.var 1), (.cst (.int 40))])),
  .set (.nm 3) (.bin .add (.cst (.int 1)) (.call f_law_next [(.var 1), (.bi .min [(.cst (.int 40)), (.bin .fdiv (.cst (.int 999)) (.var 2))])])),
  .ife (.nt (.call f_law_is_caller [(.call f_caller [(.var 2), (.var 3)]), (.var 2), (.var 3)])) [
    .ret (some (.cst (.bl false)))] [],
  .set (.nm 2) (.bin .add (.cst (.int 1)) (.call f_law_next [(.var 1), (.cst (.int 30))])),
  .set (.nm 4) (.call f_law_next [(.var 1), (.bin .add (.cst (.int 1)) (.bi .min [(.cst (.int 500)), (.bin .sub (.cst (.int 900)) (.bin .mul (.cst (.int 16)) (.var 2)))]))]),
  .ife (.nt (.call f_law_is_listener [(.var 1), (.call f_listener [(.var 4), (.var 2)]), (.var 4), (.var 2)])) [
    .ret (some (.cst (.bl false)))] [],
  .set (.nm 5) (.call f_law_code_ran [(.call f_idle []), (.tup []), (.cst (.int 1))]),
  .ret (some (.and [(.call f_law_is_guest [(.call f_idle [])]), (.cmp .isin (.ix (.var 5) (.cst (.str (S [119, 111, 114, 100])))) (.tup [(.cst (.str (S [100, 111, 110, 101]))), (.cst (.str (S [98, 111, 117, 110, 100])))])), (.cmp .eq (.ix (.var 5) (.cst (.str (S [100, 101, 101, 100, 115])))) (.lst []))]))]
def fns : List Fn := [⟨0, b_idle⟩, ⟨1, b_data_base⟩, ⟨2, b_caller⟩, ⟨2, b_listener⟩, ⟨2, b_law_draws⟩, ⟨2, b_law_next⟩, ⟨2, b_law_pick⟩, ⟨1, b_law_word⟩, ⟨0, b_law_signs⟩, ⟨3, b_law_operate⟩, ⟨1, b_law_number⟩, ⟨1, b_law_code_word⟩, ⟨2, b_law_machine⟩, ⟨2, b_law_met⟩, ⟨2, b_law_told⟩, ⟨2, b_law_instruction⟩, ⟨3, b_law_code_ran⟩, ⟨2, b_law_is_number⟩, ⟨1, b_law_is_instruction⟩, ⟨1, b_law_is_guest⟩, ⟨2, b_law_deeds⟩, ⟨3, b_law_is_caller⟩, ⟨4, b_law_is_listener⟩, ⟨1, b_law⟩]
def globs : List (Str × W) := [((S [80, 65, 71, 69]), .int (16)), ((S [76, 79, 65, 68, 69, 68]), .int (2)), ((S [70, 73, 82, 83, 84]), .int (3)), ((S [83, 69, 67, 79, 78, 68]), .int (4))]
def prg : Prog := ⟨fns, fun _ _ => none, fget globs, 4096⟩
theorem u_idle {n : Nat} {h : VH} : prg.call (n + 1) f_idle [] h = (evSs (prg.cfg n) b_idle (env0 []) h).bind retK := run_eq (prg.cfg n) h rfl
theorem u_data_base {n : Nat} {a0 : W} {h : VH} : prg.call (n + 1) f_data_base [a0] h = (evSs (prg.cfg n) b_data_base (env0 [a0]) h).bind retK := run_eq (prg.cfg n) h rfl
theorem u_caller {n : Nat} {a0 a1 : W} {h : VH} : prg.call (n + 1) f_caller [a0, a1] h = (evSs (prg.cfg n) b_caller (env0 [a0, a1]) h).bind retK := run_eq (prg.cfg n) h rfl
theorem u_listener {n : Nat} {a0 a1 : W} {h : VH} : prg.call (n + 1) f_listener [a0, a1] h = (evSs (prg.cfg n) b_listener (env0 [a0, a1]) h).bind retK := run_eq (prg.cfg n) h rfl
theorem u_law_draws {n : Nat} {a0 a1 : W} {h : VH} : prg.call (n + 1) f_law_draws [a0, a1] h = (evSs (prg.cfg n) b_law_draws (env0 [a0, a1]) h).bind retK := run_eq (prg.cfg n) h rfl
theorem u_law_next {n : Nat} {a0 a1 : W} {h : VH} : prg.call (n + 1) f_law_next [a0, a1] h = (evSs (prg.cfg n) b_law_next (env0 [a0, a1]) h).bind retK := run_eq (prg.cfg n) h rfl
theorem u_law_pick {n : Nat} {a0 a1 : W} {h : VH} : prg.call (n + 1) f_law_pick [a0, a1] h = (evSs (prg.cfg n) b_law_pick (env0 [a0, a1]) h).bind retK := run_eq (prg.cfg n) h rfl
theorem u_law_word {n : Nat} {a0 : W} {h : VH} : prg.call (n + 1) f_law_word [a0] h = (evSs (prg.cfg n) b_law_word (env0 [a0]) h).bind retK := run_eq (prg.cfg n) h rfl
theorem u_law_signs {n : Nat} {h : VH} : prg.call (n + 1) f_law_signs [] h = (evSs (prg.cfg n) b_law_signs (env0 []) h).bind retK := run_eq (prg.cfg n) h rfl
theorem u_law_operate {n : Nat} {a0 a1 a2 : W} {h : VH} : prg.call (n + 1) f_law_operate [a0, a1, a2] h = (evSs (prg.cfg n) b_law_operate (env0 [a0, a1, a2]) h).bind retK := run_eq (prg.cfg n) h rfl
theorem u_law_number {n : Nat} {a0 : W} {h : VH} : prg.call (n + 1) f_law_number [a0] h = (evSs (prg.cfg n) b_law_number (env0 [a0]) h).bind retK := run_eq (prg.cfg n) h rfl
theorem u_law_code_word {n : Nat} {a0 : W} {h : VH} : prg.call (n + 1) f_law_code_word [a0] h = (evSs (prg.cfg n) b_law_code_word (env0 [a0]) h).bind retK := run_eq (prg.cfg n) h rfl
theorem u_law_machine {n : Nat} {a0 a1 : W} {h : VH} : prg.call (n + 1) f_law_machine [a0, a1] h = (evSs (prg.cfg n) b_law_machine (env0 [a0, a1]) h).bind retK := run_eq (prg.cfg n) h rfl
theorem u_law_met {n : Nat} {a0 a1 : W} {h : VH} : prg.call (n + 1) f_law_met [a0, a1] h = (evSs (prg.cfg n) b_law_met (env0 [a0, a1]) h).bind retK := run_eq (prg.cfg n) h rfl
theorem u_law_told {n : Nat} {a0 a1 : W} {h : VH} : prg.call (n + 1) f_law_told [a0, a1] h = (evSs (prg.cfg n) b_law_told (env0 [a0, a1]) h).bind retK := run_eq (prg.cfg n) h rfl
theorem u_law_instruction {n : Nat} {a0 a1 : W} {h : VH} : prg.call (n + 1) f_law_instruction [a0, a1] h = (evSs (prg.cfg n) b_law_instruction (env0 [a0, a1]) h).bind retK := run_eq (prg.cfg n) h rfl
theorem u_law_code_ran {n : Nat} {a0 a1 a2 : W} {h : VH} : prg.call (n + 1) f_law_code_ran [a0, a1, a2] h = (evSs (prg.cfg n) b_law_code_ran (env0 [a0, a1, a2]) h).bind retK := run_eq (prg.cfg n) h rfl
theorem u_law_is_number {n : Nat} {a0 a1 : W} {h : VH} : prg.call (n + 1) f_law_is_number [a0, a1] h = (evSs (prg.cfg n) b_law_is_number (env0 [a0, a1]) h).bind retK := run_eq (prg.cfg n) h rfl
theorem u_law_is_instruction {n : Nat} {a0 : W} {h : VH} : prg.call (n + 1) f_law_is_instruction [a0] h = (evSs (prg.cfg n) b_law_is_instruction (env0 [a0]) h).bind retK := run_eq (prg.cfg n) h rfl
theorem u_law_is_guest {n : Nat} {a0 : W} {h : VH} : prg.call (n + 1) f_law_is_guest [a0] h = (evSs (prg.cfg n) b_law_is_guest (env0 [a0]) h).bind retK := run_eq (prg.cfg n) h rfl
theorem u_law_deeds {n : Nat} {a0 a1 : W} {h : VH} : prg.call (n + 1) f_law_deeds [a0, a1] h = (evSs (prg.cfg n) b_law_deeds (env0 [a0, a1]) h).bind retK := run_eq (prg.cfg n) h rfl
theorem u_law_is_caller {n : Nat} {a0 a1 a2 : W} {h : VH} : prg.call (n + 1) f_law_is_caller [a0, a1, a2] h = (evSs (prg.cfg n) b_law_is_caller (env0 [a0, a1, a2]) h).bind retK := run_eq (prg.cfg n) h rfl
theorem u_law_is_listener {n : Nat} {a0 a1 a2 a3 : W} {h : VH} : prg.call (n + 1) f_law_is_listener [a0, a1, a2, a3] h = (evSs (prg.cfg n) b_law_is_listener (env0 [a0, a1, a2, a3]) h).bind retK := run_eq (prg.cfg n) h rfl
theorem u_law {n : Nat} {a0 : W} {h : VH} : prg.call (n + 1) f_law [a0] h = (evSs (prg.cfg n) b_law (env0 [a0]) h).bind retK := run_eq (prg.cfg n) h rfl
def topS (i : Nat) : Stmt := PySem.Challenge.pw_nowhisper_k77_callers_and_listeners.main.body.getD i (.Pass ⟨0, 0, 0, 0⟩)
def ds : List DefI := [
  ⟨"idle", topS 5, [], []⟩,
  ⟨"data_base", topS 6, ["many"], ["many"]⟩,
  ⟨"caller", topS 7, ["many", "stride", "base", "code", "size", "k"], ["many", "stride"]⟩,
  ⟨"listener", topS 8, ["at", "many", "base", "code", "size"], ["at", "many"]⟩,
  ⟨"_law_draws", topS 10, ["script", "many", "draws", "mixed", "k", "cell", "rest", "turn"], ["script", "many"]⟩,
  ⟨"_law_next", topS 11, ["w", "many"], ["w", "many"]⟩,
  ⟨"_law_pick", topS 12, ["w", "rows"], ["w", "rows"]⟩,
  ⟨"_law_word", topS 13, ["w", "turn", "high"], ["w"]⟩,
  ⟨"_law_signs", topS 14, [], []⟩,
  ⟨"_law_operate", topS 15, ["sign", "a", "b"], ["sign", "a", "b"]⟩,
  ⟨"_law_number", topS 16, ["kind", "kinds"], ["kind"]⟩,
  ⟨"_law_code_word", topS 17, ["row", "kind", "found", "place"], ["row"]⟩,
  ⟨"_law_machine", topS 18, ["guest", "answers", "code", "size", "first", "base", "memory", "row"], ["guest", "answers"]⟩,
  ⟨"_law_met", topS 19, ["m", "row", "regs", "memory", "place"], ["m", "row"]⟩,
  ⟨"_law_told", topS 20, ["m", "row", "regs", "answer"], ["m", "row"]⟩,
  ⟨"_law_instruction", topS 21, ["m", "row", "kind", "regs"], ["m", "row"]⟩,
  ⟨"_law_code_ran", topS 22, ["guest", "answers", "steps", "m", "turn"], ["guest", "answers", "steps"]⟩,
  ⟨"_law_is_number", topS 23, ["thing", "most"], ["thing", "most"]⟩,
  ⟨"_law_is_instruction", topS 24, ["row", "rest", "shapes", "mosts", "letter", "k"], ["row"]⟩,
  ⟨"_law_is_guest", topS 25, ["thing", "word", "row"], ["thing"]⟩,
  ⟨"_law_deeds", topS 26, ["guest", "m", "found", "place", "address", "kind"], ["guest", "m"]⟩,
  ⟨"_law_is_caller", topS 27, ["guest", "many", "stride", "m", "base", "due", "k"], ["guest", "many", "stride"]⟩,
  ⟨"_law_is_listener", topS 28, ["w", "guest", "at", "many", "answers", "m", "load", "steps"], ["w", "guest", "at", "many"]⟩,
  ⟨"law", topS 29, ["script", "w", "many", "stride", "at", "m"], ["script"]⟩]
theorem ds_ok : defsB ⟨ds.map (·.name)⟩ ds prg.fns = true := by decide +kernel
end Nw

set_option Elab.async false
set_option linter.all false
set_option maxRecDepth 100000
set_option maxHeartbeats 4000000
/-! Contracts of the laws' own helpers: draws. -/
namespace Nw
open PySem PySem.Spec PyProof.Rows L2
abbrev sDraws : Str := S [100, 114, 97, 119, 115]
abbrev sAt : Str := S [97, 116]
/-- w: the dict of draws -/
def WOk (h : VH) (w d : Nat) : Prop := ∃ (ds : List Int) (k : Int), hg h w = some (.dct [(.inr sDraws, .ref d), (.inr sAt, .int k)]) ∧ hg h d = some (.lst (ds.map W.int)) ∧ (∀ x ∈ ds, 0 ≤ x) ∧ 0 ≤ k
theorem WOk.mod {s : Nat → Prop} {h h' : VH} {w d : Nat} (a : WOk h w d) (m : Mod s h h') (n1 : ¬ s w) (n2 : ¬ s d) : WOk h' w d := by
  obtain ⟨ds, k, h1, h2, h3, h4⟩ := a
  exact ⟨ds, k, m.get h1 n1, m.get h2 n2, h3, h4⟩
theorem WOk.new {h : VH} {w d : Nat} {o : O} (a : WOk h w d) : WOk (hn h o) w d := a.mod (s := no) Mod.new (fun z => z) (fun z => z)
/-- a number that was drawn -/
abbrev Drawn (h : VH) (w d : Nat) (p : Int → Prop) (a : W) (h' : VH) : Prop := ∃ v : Int, a = .int v ∧ p v ∧ WOk h' w d ∧ Mod (· = w) h h'
theorem c_next {n : Nat} {h : VH} {w d : Nat} {many : Int} (a : WOk h w d) (hm : 0 < many) :
    Run (prg.call (n + 1) f_law_next [.ref w, .int many] h) (Drawn h w d fun v => 0 ≤ v ∧ v < many) := by
  obtain ⟨ds, k, h1, h2, h3, h4⟩ := a
  have hne : w ≠ d := by rintro rfl; rw [h1] at h2; cases h2
  rw [u_law_next]
  have m : Mod (· = w) h (hs h w (.dct [(.inr sDraws, .ref d), (.inr sAt, .int (k + 1))])) := Mod.set rfl
  have wok : WOk (hs h w (.dct [(.inr sDraws, .ref d), (.inr sAt, .int (k + 1))])) w d := ⟨ds, k + 1, by simp [h1], by simp [h2, hne], h3, by omega⟩
  refine run_q fun Q q => ?_
  simp [b_law_next, h1, h2, hne]
  refine run_ite (fun c => ?_) (fun c => ?_)
  · simp only [run_ok]
    exact q _ _ ⟨0, rfl, ⟨by omega, hm⟩, wok, m⟩
  · have e : atW (ds.map W.int) k = some (.int (ds[k.toNat]?.getD 0)) := by
      rw [atW_pos h4, List.getElem?_map, List.getElem?_eq_getElem (by omega)]
      simp
    simp [h1, h2, hne, e, hm]
    exact q _ _ ⟨_, rfl, ⟨Int.emod_nonneg _ (by omega), Int.emod_lt_of_pos _ hm⟩, wok, m⟩
theorem z_pow18 (h : VH) : binW .pow (.int 10) (.int 18) h = .ok (.int 1000000000000000000) h := by
  rfl
/-- the list that is gathered: ints, none below 0 -/
def NN (h : VH) (r : Nat) (b : Nat) : Prop := ∃ ds : List Int, hg h r = some (.lst (ds.map W.int)) ∧ (∀ x ∈ ds, 0 ≤ x) ∧ ds.length ≤ b
theorem NN.push {h : VH} {r b : Nat} {ds : List Int} {v : Int} (h1 : hg h r = some (.lst (ds.map W.int))) (h2 : ∀ x ∈ ds, 0 ≤ x) (h3 : ds.length ≤ b) (hv : 0 ≤ v) : NN (hs h r (.lst (ds.map W.int ++ [.int v]))) r (b + 1) :=
  ⟨ds ++ [v], by simp [h1], fun x hx => by rcases List.mem_append.mp hx with z | z; exact h2 x z; simp at z; omega, by simp; omega⟩
abbrev DI (h0 : VH) (s : List W) (many : Int) (r : Nat) (b : Nat) (env : Env) (h : VH) : Prop :=
  env 0 = some (.rol s) ∧ env 1 = some (.int many) ∧ env 2 = some (.ref r) ∧ (∃ m : Int, env 3 = some (.int m)) ∧ NN h r b ∧ Mod no h0 h ∧ h0.length ≤ r
theorem mod_push {h0 h : VH} {r : Nat} {o : O} (m : Mod no h0 h) (hr : h0.length ≤ r) : Mod no h0 (hs h r o) := m.seq (t := (· = r)) (Mod.set rfl) (fun q _ z => z) (fun q l z => by omega)
theorem draws_2 {n : Nat} {h0 : VH} {s : List W} {many : Int} {r b : Nat} (hb : b < 100000) {env : Env} {h : VH} (w : W) (a : DI h0 s many r b env h ∧ ∃ v : Int, env 6 = some (.int v)) :
    Run (forF (prg.cfg n) (.nm 7) l_law_draws_2 w env h) fun r' h' => r'.1 = .nx ∧ (DI h0 s many r (b + 1) r'.2 h' ∧ ∃ v : Int, r'.2 6 = some (.int v)) := by
  obtain ⟨⟨a1, a2, a3, ⟨m, a4⟩, ⟨ds, p1, p2, p3⟩, a6, a7⟩, v, hv⟩ := a
  have : ds.length < 16777216 := by omega
  refine run_q fun Q q => ?_
  simp [l_law_draws_2, hv]
  refine run_ite (fun c => ?_) (fun c => ?_)
  · have z := NN.push p1 p2 p3 (v := v % 997) (Int.emod_nonneg _ (by omega))
    simp [a3, hv, c, p1, this]
    exact q _ _ ⟨rfl, ⟨by simp [a1], by simp [a2], by simp [a3], ⟨m, by simp [a4]⟩, z, mod_push a6 a7, a7⟩, by simp⟩
  · simp
    exact q _ _ ⟨rfl, ⟨by simp [a1], by simp [a2], by simp [a3], ⟨m, by simp [a4]⟩, ⟨ds, p1, p2, by omega⟩, a6, a7⟩, ⟨v, by simp [hv]⟩⟩
theorem draws_1 {n : Nat} {h0 : VH} {ns : List Int} {many : Int} {r b : Nat} (hb : b < 50000) {env : Env} {h : VH} {k : Nat} (hk : k < ns.length) (a : DI h0 (ns.map W.int) many r b env h) :
    Run (forF (prg.cfg n) (.nm 4) l_law_draws_1 (.int k) env h) fun r' h' => r'.1 = .nx ∧ DI h0 (ns.map W.int) many r (b + 62) r'.2 h' := by
  obtain ⟨a1, a2, a3, ⟨m, a4⟩, ⟨ds, p1, p2, p3⟩, a6, a7⟩ := a
  have hx : atW (ns.map W.int) (k : Int) = some (.int ns[k]) := by rw [atW_nat, List.getElem?_map, List.getElem?_eq_getElem hk]; rfl
  have key : ∀ (env : Env) (h : VH), (DI h0 (ns.map W.int) many r (b + 2) env h ∧ ∃ v : Int, env 6 = some (.int v)) →
      Run (forK (forF (prg.cfg n) (.nm 7) l_law_draws_2) env (.ws (rangeW 0 60)) h) fun r' h' => r'.1 = .nx ∧ DI h0 (ns.map W.int) many r (b + 62) r'.2 h' := fun env h a => by
    refine (for_all (rangeW 0 60) (fun i env h => DI h0 (ns.map W.int) many r (b + 2 + i) env h ∧ ∃ v : Int, env 6 = some (.int v)) a (fun _ _ _ _ => rfl) (fun i w env h hw a => ?_)).imp fun r' h' ⟨q1, q2, _⟩ => ⟨q1, q2⟩
    have := range_at hw
    exact draws_2 (b := b + 2 + i) (by omega) w a
  generalize hc : (if ns[k] < 0 then -ns[k] else ns[k]) = c0
  have h1 : ds.length < 16777216 := by omega
  have h2 : ds.length + 1 < 16777216 := by omega
  have fin : ∀ (env : Env) (h : VH), (DI h0 (ns.map W.int) many r (b + 2) env h ∧ ∃ v : Int, env 6 = some (.int v)) →
      Run ((forK (forF (prg.cfg n) (.nm 7) l_law_draws_2) env (.ws (rangeW 0 60)) h).bind (k_ss (prg.cfg n) [])) fun r' h' => r'.1 = .nx ∧ DI h0 (ns.map W.int) many r (b + 62) r'.2 h' := fun env h a => by
    refine run_bind (key env h a) fun r' h' ⟨q1, q2⟩ => ?_
    rcases r' with ⟨fl, e⟩
    cases q1
    simpa using q2
  simp [l_law_draws_1, a1, a4, hx, hc, z_pow18]
  refine run_ite (fun c => ?_) (fun c => ?_)
  · refine fin _ _ ⟨⟨by simp [a1], by simp [a2], by simp [a3], by simp, ⟨ds, p1, p2, by omega⟩, a6, a7⟩, by simp⟩
  · simp [a3, p1, h1, h2]
    refine fin _ _ ⟨⟨by simp [a1], by simp [a2], by simp [a3], by simp, ?_, mod_push (mod_push a6 a7) a7, a7⟩, by simp⟩
    refine ⟨ds ++ [c0 % 997, ((m * 48271 + c0 % 1000003 + k) % 65537 * 69621 + 5) % 65521 % 997], by simp [p1], fun x hx => ?_, by simp; omega⟩
    simp only [List.mem_append, List.mem_cons, List.not_mem_nil, or_false] at hx
    rcases hx with z | z | z
    · exact p2 x z
    · omega
    · omega
theorem draws_3 {n : Nat} {h0 : VH} {s : List W} {many : Int} {r b : Nat} (hb : b < 200000) {env : Env} {h : VH} {k : Int} (a : DI h0 s many r b env h) :
    Run (forF (prg.cfg n) (.nm 4) l_law_draws_3 (.int k) env h) fun r' h' => r'.1 = .nx ∧ DI h0 s many r (b + 1) r'.2 h' := by
  obtain ⟨a1, a2, a3, ⟨m, a4⟩, ⟨ds, p1, p2, p3⟩, a6, a7⟩ := a
  have : ds.length < 16777216 := by omega
  refine run_q fun Q q => ?_
  simp [l_law_draws_3, a4, a3, p1, this]
  exact q _ _ ⟨rfl, by simp [a1], by simp [a2], by simp [a3], by simp, NN.push p1 p2 p3 (by omega), mod_push a6 a7, a7⟩
theorem c_draws {n : Nat} {h : VH} {ns : List Int} {many : Int} (hl : ns.length ≤ 63) (h0 : 0 ≤ many) (h1 : many < 100000) :
    Run (prg.call (n + 1) f_law_draws [.rol (ns.map W.int), .int many] h) fun a h' => ∃ r b, a = .ref r ∧ NN h' r b ∧ h.length ≤ r ∧ Mod no h h' := by
  refine run_q fun Q q => ?_
  have e1 : (ns.length : Int) < 2305843009213693952 := by omega
  have e2 : many < 2305843009213693952 := by omega
  rw [u_law_draws]
  simp [b_law_draws, e1]
  refine run_bind (for_all (rangeW 0 ns.length) (fun i env h' => DI h (ns.map W.int) many (nx h 0) (62 * i) env h') ⟨by simp, by simp, by simp, by simp, ⟨[], by simp, by simp, by simp⟩, Mod.new, nx_le (Nat.le_refl _) 0⟩ (fun _ _ _ _ => rfl) (fun i w env h' hw a => ?_)) ?_
  · obtain ⟨rfl, lt⟩ := range_at hw
    simp only [Int.zero_add]
    have := draws_1 (n := n) (k := i) (ns := ns) (by omega) (by omega) a
    exact this
  rintro ⟨_, env⟩ h2 ⟨rfl, a⟩
  dsimp only at a
  rw [range_len] at a
  obtain ⟨a1, a2, a3, ⟨m, a4⟩, a5, a6, a7⟩ := a
  simp [a2, e2, h0]
  refine run_bind (for_all (rangeW 0 many) (fun i env h' => DI h (ns.map W.int) many (nx h 0) (62 * ns.length + i) env h') ⟨a1, a2, a3, ⟨m, a4⟩, ?_, a6, a7⟩ (fun _ _ _ _ => rfl) (fun i w env h' hw a => ?_)) ?_
  · simpa using a5
  · obtain ⟨rfl, lt⟩ := range_at hw
    exact draws_3 (b := 62 * ns.length + i) (by omega) a
  rintro ⟨_, env⟩ h3 ⟨rfl, a⟩
  dsimp only at a
  rw [range_len] at a
  obtain ⟨a1, a2, a3, ⟨m, a4⟩, ⟨ds, p1, p2, p3⟩, a6, a7⟩ := a
  simp [a2, a3, p1]
  refine q _ _ ⟨_, _, rfl, ⟨cut ds none (some many), ?_, fun x hx => p2 x (cut_mem hx), Nat.le_refl _⟩, nx_le a6.1 0, a6.trans Mod.new⟩
  rw [← cut_map]
  simp
end Nw

set_option Elab.async false
set_option linter.all false
set_option maxRecDepth 100000
set_option maxHeartbeats 4000000
/-! The laws' own machine: one instruction. -/
namespace Nw
open PySem PySem.Spec PyProof.Rows L2
inductive Ins where
  | fin (s : Str) | set (r n : Int) | high (r n : Int) | op (s : Str) (d a b : Int) | load (r b n : Int) | store (r b n : Int) | go (n : Int) | unl (r n : Int) | call (r n : Int) | back (r : Int)
  | send (p r : Int) | ask (r p : Int) | take (r p : Int) | time (r : Int) | rest
abbrev signs : List Str := [(S [43]), (S [45]), (S [42]), (S [47]), (S [64]), (S [38]), (S [124]), (S [94]), (S [61, 61]), (S [60]), (S [60, 60]), (S [62, 62])]
def insL : Ins → List W
  | .fin s => [.str (S [101, 110, 100]), .str s]
  | .set r n => [.str (S [115, 101, 116]), .int r, .int n]
  | .high r n => [.str (S [104, 105, 103, 104]), .int r, .int n]
  | .op s d a b => [.str (S [111, 112]), .str s, .int d, .int a, .int b]
  | .load r b n => [.str (S [108, 111, 97, 100]), .int r, .int b, .int n]
  | .store r b n => [.str (S [115, 116, 111, 114, 101]), .int r, .int b, .int n]
  | .go n => [.str (S [103, 111]), .int n]
  | .unl r n => [.str (S [117, 110, 108, 101, 115, 115]), .int r, .int n]
  | .call r n => [.str (S [99, 97, 108, 108]), .int r, .int n]
  | .back r => [.str (S [98, 97, 99, 107]), .int r]
  | .send p r => [.str (S [115, 101, 110, 100]), .int p, .int r]
  | .ask r p => [.str (S [97, 115, 107]), .int r, .int p]
  | .take r p => [.str (S [116, 97, 107, 101]), .int r, .int p]
  | .time r => [.str (S [116, 105, 109, 101]), .int r]
  | .rest => [.str (S [114, 101, 115, 116])]
def insW (i : Ins) : W := .tup (insL i)
def isR (r : Int) : Prop := 0 ≤ r ∧ r < 8
def isN (r : Int) : Prop := 0 ≤ r ∧ r < 65536
def InsOk : Ins → Prop
  | .fin s => s = (S [100, 111, 110, 101]) ∨ s = (S [98, 111, 117, 110, 100])
  | .set r n => isR r ∧ isN n
  | .high r n => isR r ∧ isN n
  | .op s d a b => s ∈ signs ∧ isR d ∧ isR a ∧ isR b
  | .load r b n => isR r ∧ isR b ∧ isN n
  | .store r b n => isR r ∧ isR b ∧ isN n
  | .go n => isN n
  | .unl r n => isR r ∧ isN n
  | .call r n => isR r ∧ isN n
  | .back r => isR r
  | .send p r => isR p ∧ isR r
  | .ask r p => isR r ∧ isR p
  | .take r p => isR r ∧ isR p
  | .time r => isR r
  | .rest => True
abbrev two32 : Int := 4294967296
def isW (v : Int) : Prop := 0 ≤ v ∧ v < 4294967296
def opI (s : Str) (a b : Int) : Int :=
  if s = (S [43]) then (a + b) % 4294967296 else if s = (S [45]) then (a - b) % 4294967296 else if s = (S [42]) then (a * b) % 4294967296
  else if s = (S [47]) then (if b = 0 then 0 else a / b) else if s = (S [38]) then Builtin.bitAnd a b else if s = (S [124]) then Builtin.bitOr a b else if s = (S [94]) then Builtin.bitXor a b
  else if s = (S [61, 61]) then (if a = b then 1 else 0) else if s = (S [60]) then (if a < b then 1 else 0)
  else if s = (S [60, 60]) then (if 31 < b then 0 else a * 2 ^ b.toNat % 4294967296) else if s = (S [62, 62]) then (if 31 < b then 0 else a / 2 ^ b.toNat)
  else if b = 0 then a else a % b
@[simp] theorem z_band (h : VH) (i j : Int) : binW .band (.int i) (.int j) h = .ok (.int (Builtin.bitAnd i j)) h := (rfl)
@[simp] theorem z_bor (h : VH) (i j : Int) : binW .bor (.int i) (.int j) h = .ok (.int (Builtin.bitOr i j)) h := (rfl)
@[simp] theorem z_bxor (h : VH) (i j : Int) : binW .bxor (.int i) (.int j) h = .ok (.int (Builtin.bitXor i j)) h := (rfl)
theorem z_shl {h : VH} {i j : Int} (e : 0 ≤ j) (e1 : j ≤ 1000) (e2 : i.natAbs < 1152921504606846976) : binW .shl (.int i) (.int j) h = .ok (.int (i * 2 ^ j.toNat)) h := by
  have q : binI .shl i j = some (i * 2 ^ j.toNat) := if_pos ⟨e, e1, e2⟩
  show (match binI .shl i j with | some k => _ | none => _) = _
  rw [q]
theorem z_shr {h : VH} {i j : Int} (e : 0 ≤ j) : binW .shr (.int i) (.int j) h = .ok (.int (i / 2 ^ j.toNat)) h := by
  have q : binI .shr i j = some (i / 2 ^ j.toNat) := if_pos e
  show (match binI .shr i j with | some k => _ | none => _) = _
  rw [q]
theorem c_operate {n : Nat} {h : VH} {s : Str} {a b : Int} (hs : s ∈ signs) (ha : isW a) (hb : isW b) :
    Run (prg.call (n + 1) f_law_operate [.str s, .int a, .int b] h) fun r h' => r = .int (opI s a b) ∧ h' = h := by
  refine run_q fun Q q => ?_
  obtain ⟨a0, a1⟩ := ha
  obtain ⟨b0, b1⟩ := hb
  have n1 : a.natAbs < 1152921504606846976 := by omega
  have n2 : b.natAbs < 1152921504606846976 := by omega
  have n3 : b < 1267650600228229401496703205376 := by omega
  rw [u_law_operate]
  simp only [signs, List.mem_cons, List.not_mem_nil, or_false] at hs
  rcases hs with rfl | rfl | rfl | rfl | rfl | rfl | rfl | rfl | rfl | rfl | rfl | rfl
  · simp [b_law_operate]; exact q _ _ ⟨by simp [opI], rfl⟩
  · simp [b_law_operate]; exact q _ _ ⟨by simp [opI], rfl⟩
  · simp [b_law_operate, n1, n2]; exact q _ _ ⟨by simp [opI], rfl⟩
  · simp [b_law_operate]
    refine run_ite (fun c => ?_) (fun c => ?_)
    · simp; exact q _ _ ⟨by simp [opI, c], rfl⟩
    · have : 0 < b := by omega
      simp [this, n3]; exact q _ _ ⟨by simp [opI, c], rfl⟩
  · simp [b_law_operate]
    refine run_ite (fun c => ?_) (fun c => ?_)
    · simp; exact q _ _ ⟨by simp [opI, c], rfl⟩
    · have : 0 < b := by omega
      simp [this, n3]; exact q _ _ ⟨by simp [opI, c], rfl⟩
  · simp [b_law_operate]; exact q _ _ ⟨by simp [opI], rfl⟩
  · simp [b_law_operate]; exact q _ _ ⟨by simp [opI], rfl⟩
  · simp [b_law_operate]; exact q _ _ ⟨by simp [opI], rfl⟩
  · simp [b_law_operate]; exact q _ _ ⟨by simp [opI], rfl⟩
  · simp [b_law_operate]; exact q _ _ ⟨by simp [opI], rfl⟩
  · simp [b_law_operate]
    refine run_ite (fun c => ?_) (fun c => ?_)
    · simp; exact q _ _ ⟨by simp [opI, c], rfl⟩
    · simp [z_shl b0 (by omega) n1]; exact q _ _ ⟨by simp [opI, c], rfl⟩
  · simp [b_law_operate]
    refine run_ite (fun c => ?_) (fun c => ?_)
    · simp; exact q _ _ ⟨by simp [opI, c], rfl⟩
    · simp [z_shr b0]; exact q _ _ ⟨by simp [opI, c], rfl⟩
end Nw

set_option Elab.async false
set_option linter.all false
set_option maxRecDepth 100000
set_option maxHeartbeats 4000000
/-! The laws' own machine: its dict; one step. -/
namespace Nw
open PySem PySem.Spec PyProof.Rows L2
theorem and_w {a b : Int} (ha : isW a) (hb : isW b) : Builtin.bitAnd a b = ((a.toNat &&& b.toNat : Nat) : Int) := by
  unfold Builtin.bitAnd
  rw [show decide (0 ≤ a) = true from decide_eq_true ha.1, show decide (0 ≤ b) = true from decide_eq_true hb.1]
theorem or_w {a b : Int} (ha : isW a) (hb : isW b) : Builtin.bitOr a b = ((a.toNat ||| b.toNat : Nat) : Int) := by
  obtain ⟨a0, a1⟩ := ha
  obtain ⟨b0, b1⟩ := hb
  unfold Builtin.bitOr Builtin.bitAnd
  rw [show decide (0 ≤ Builtin.bitNot a) = false from decide_eq_false (by unfold Builtin.bitNot; omega), show decide (0 ≤ Builtin.bitNot b) = false from decide_eq_false (by unfold Builtin.bitNot; omega)]
  show Builtin.bitNot (Builtin.bitNot _) = _
  have e1 : Builtin.bitNot (Builtin.bitNot a) = a := by unfold Builtin.bitNot; omega
  have e2 : Builtin.bitNot (Builtin.bitNot b) = b := by unfold Builtin.bitNot; omega
  rw [e1, e2]
  unfold Builtin.bitNot
  omega
theorem isW_nat {k : Nat} (h : k < 2 ^ 32) : isW (k : Int) := ⟨by omega, by omega⟩
theorem isW_or {a b : Int} (ha : isW a) (hb : isW b) : isW (Builtin.bitOr a b) := by
  rw [or_w ha hb]
  obtain ⟨a0, a1⟩ := ha
  obtain ⟨b0, b1⟩ := hb
  exact isW_nat (Nat.or_lt_two_pow (by omega) (by omega))
theorem isW_and {a b : Int} (ha : isW a) (hb : isW b) : isW (Builtin.bitAnd a b) := by
  rw [and_w ha hb]
  obtain ⟨a0, a1⟩ := ha
  exact isW_nat (Nat.lt_of_le_of_lt Nat.and_le_left (by omega))
theorem isW_xor {a b : Int} (ha : isW a) (hb : isW b) : isW (Builtin.bitXor a b) := by
  have h1 := isW_or ha hb
  have h2 := isW_and ha hb
  unfold Builtin.bitXor
  rw [or_w ha hb, and_w ha hb] at *
  have : a.toNat &&& b.toNat ≤ a.toNat ||| b.toNat := Nat.le_trans Nat.and_le_left Nat.left_le_or
  exact ⟨by omega, by have := h1.2; have := h2.1; omega⟩
theorem isW_mod (a : Int) : isW (a % 4294967296) := ⟨by omega, by omega⟩
theorem isW_ite {c : Prop} [Decidable c] {a b : Int} (ha : isW a) (hb : isW b) : isW (if c then a else b) := by split <;> assumption
theorem isW_div {a b : Int} (ha : isW a) (hb : 0 ≤ b) : isW (a / b) := by
  refine ⟨Int.ediv_nonneg ha.1 hb, ?_⟩
  have := Int.ediv_le_self b ha.1
  have := ha.2
  omega
theorem opI_w {s : Str} {a b : Int} (ha : isW a) (hb : isW b) : isW (opI s a b) := by
  unfold opI
  have z : isW 0 := ⟨by omega, by omega⟩
  have o : isW 1 := ⟨by omega, by omega⟩
  have md : isW (if b = 0 then a else a % b) := by
    split
    · exact ha
    · have b0 := hb.1
      exact ⟨Int.emod_nonneg _ (by omega), by have := Int.emod_lt_of_pos a (show 0 < b by omega); have := hb.2; omega⟩
  exact isW_ite (isW_mod _) (isW_ite (isW_mod _) (isW_ite (isW_mod _) (isW_ite (isW_ite z (isW_div ha hb.1)) (isW_ite (isW_and ha hb) (isW_ite (isW_or ha hb) (isW_ite (isW_xor ha hb) (isW_ite (isW_ite o z) (isW_ite (isW_ite o z) (isW_ite (isW_ite z (isW_mod _)) (isW_ite (isW_ite z (isW_div ha (by exact Int.le_of_lt (Int.pow_pos (by omega)))))
    md))))))))))
/-- the machine's state -/
structure MS where
  mem : List Int
  regs : List Int
  at_ : Int
  given : Nat
  deeds : List W
  word : Str
  done : Int
  met : List W
/-- what stays -/
structure MG where
  code : List Ins
  base : Int
  ans : List Int
def gI (l : List Int) (i : Int) : Int := l[i.toNat]?.getD 0
theorem at_gI {l : List Int} {i : Int} (h0 : 0 ≤ i) (h1 : i < l.length) : atW (l.map W.int) i = some (.int (gI l i)) := by
  rw [atW_pos h0, List.getElem?_map]
  unfold gI
  rw [List.getElem?_eq_getElem (show i.toNat < l.length by omega)]
  rfl
def stepI (g : MG) (M : MS) : Ins → MS
  | .fin s => { M with word := s }
  | .set r n => { M with regs := M.regs.set r.toNat n }
  | .high r n => { M with regs := M.regs.set r.toNat (n * 65536 + gI M.regs r % 65536) }
  | .op s d a b => { M with regs := M.regs.set d.toNat (opI s (gI M.regs a) (gI M.regs b)) }
  | .load r b n => let p := (gI M.regs b + n) % 4294967296
      if (M.mem.length : Int) ≤ p then { M with met := M.met ++ [.tup [.int (M.at_ - 1), .int p]], word := (S [102, 97, 117, 108, 116]) }
      else { M with met := M.met ++ [.tup [.int (M.at_ - 1), .int p]], regs := M.regs.set r.toNat (gI M.mem p) }
  | .store r b n => let p := (gI M.regs b + n) % 4294967296
      if (M.mem.length : Int) ≤ p ∨ p < g.base then { M with met := M.met ++ [.tup [.int (M.at_ - 1), .int p]], word := (S [102, 97, 117, 108, 116]) }
      else { M with met := M.met ++ [.tup [.int (M.at_ - 1), .int p]], mem := M.mem.set p.toNat (gI M.regs r) }
  | .go n => { M with at_ := n }
  | .unl r n => if gI M.regs r = 0 then { M with at_ := n } else M
  | .call r n => { M with regs := M.regs.set r.toNat M.at_, at_ := n }
  | .back r => { M with at_ := gI M.regs r }
  | .send p r => { M with deeds := M.deeds ++ [.tup [.str (S [115, 101, 110, 100]), .int p, .int (gI M.regs r)]] }
  | .ask r p => if M.given = g.ans.length then { M with word := (S [111, 112, 101, 110]) } else
      { M with given := M.given + 1, regs := M.regs.set r.toNat (gI g.ans M.given), deeds := M.deeds ++ [.tup [.str (S [97, 115, 107]), .int p, .int (gI g.ans M.given)]] }
  | .take r p => if M.given = g.ans.length then { M with word := (S [111, 112, 101, 110]) } else
      { M with given := M.given + 1, regs := M.regs.set r.toNat (gI g.ans M.given), deeds := M.deeds ++ [.tup [.str (S [116, 97, 107, 101]), .int p, .int (gI g.ans M.given)]] }
  | .time r => if M.given = g.ans.length then { M with word := (S [111, 112, 101, 110]) } else
      { M with given := M.given + 1, regs := M.regs.set r.toNat (gI g.ans M.given), deeds := M.deeds ++ [.tup [.str (S [116, 105, 109, 101]), .int (gI g.ans M.given)]] }
  | .rest => { M with deeds := M.deeds ++ [.tup [.str (S [114, 101, 115, 116])]] }
def step (g : MG) (M : MS) (i : Ins) : MS := let N := stepI g { M with at_ := M.at_ + 1 } i; { N with regs := N.regs.set 0 0 }
def codeW (g : MG) : W := .tup (g.code.map insW)
def mD (g : MG) (rm rr rd rt : Nat) (M : MS) : List (Key × W) :=
  [(.inr (S [99, 111, 100, 101]), codeW g), (.inr (S [109, 101, 109, 111, 114, 121]), .ref rm), (.inr (S [98, 97, 115, 101]), .int g.base), (.inr (S [114, 101, 103, 115]), .ref rr), (.inr (S [97, 116]), .int M.at_), (.inr (S [97, 110, 115, 119, 101, 114, 115]), .tup (g.ans.map W.int)), (.inr (S [103, 105, 118, 101, 110]), .int (M.given : Nat)), (.inr (S [100, 101, 101, 100, 115]), .ref rd), (.inr (S [119, 111, 114, 100]), .str M.word), (.inr (S [100, 111, 110, 101]), .int M.done), (.inr (S [109, 101, 116]), .ref rt)]
structure MR (h : VH) (g : MG) (m rm rr rd rt : Nat) (M : MS) : Prop where
  hm : hg h m = some (.dct (mD g rm rr rd rt M))
  hmm : hg h rm = some (.lst (M.mem.map W.int))
  hrr : hg h rr = some (.lst (M.regs.map W.int))
  hrd : hg h rd = some (.lst M.deeds)
  hrt : hg h rt = some (.lst M.met)
  ne : rm ≠ rr ∧ rm ≠ rd ∧ rm ≠ rt ∧ rr ≠ rd ∧ rr ≠ rt ∧ rd ≠ rt
theorem ne_of_get {h : VH} {a b : Nat} {o o' : O} (x : hg h a = some o) (y : hg h b = some o') (n : o ≠ o') : a ≠ b := by
  rintro rfl
  rw [x] at y
  cases y
  exact n rfl
/-- what the steps keep -/
structure MW (g : MG) (b : Nat) (M : MS) : Prop where
  regs : M.regs.length = 8
  isW : ∀ x ∈ M.regs, isW x
  memW : ∀ x ∈ M.mem, Nw.isW x
  given : M.given ≤ g.ans.length
  deeds : M.deeds.length ≤ b
  met : M.met.length ≤ 2 * b
  at0 : 0 ≤ M.at_
theorem isW_gI {l : List Int} (h : ∀ x ∈ l, isW x) (i : Int) : isW (gI l i) := by
  unfold gI
  cases e : l[i.toNat]? with
  | none => exact ⟨by decide, by decide⟩
  | some x => exact h x (List.mem_of_getElem? e)
def MF (m rm rr rd rt : Nat) : Nat → Prop := fun q => q = m ∨ q = rm ∨ q = rr ∨ q = rd ∨ q = rt
end Nw

set_option Elab.async false
set_option linter.all false
set_option maxRecDepth 100000
set_option maxHeartbeats 4000000
/-! The laws' own machine: one instruction. -/
namespace Nw
open PySem PySem.Spec PyProof.Rows L2
section
variable (g : MG) (rm rr rd rt : Nat) (M : MS)
@[simp high] theorem md_code : dget (mD g rm rr rd rt M) (.inr (S [99, 111, 100, 101])) = some (codeW g) := by simp [mD]
@[simp high] theorem md_mem : dget (mD g rm rr rd rt M) (.inr (S [109, 101, 109, 111, 114, 121])) = some (.ref rm) := by simp [mD]
@[simp high] theorem md_base : dget (mD g rm rr rd rt M) (.inr (S [98, 97, 115, 101])) = some (.int g.base) := by simp [mD]
@[simp high] theorem md_regs : dget (mD g rm rr rd rt M) (.inr (S [114, 101, 103, 115])) = some (.ref rr) := by simp [mD]
@[simp high] theorem md_at : dget (mD g rm rr rd rt M) (.inr (S [97, 116])) = some (.int M.at_) := by simp [mD]
@[simp high] theorem md_ans : dget (mD g rm rr rd rt M) (.inr (S [97, 110, 115, 119, 101, 114, 115])) = some (.tup (g.ans.map W.int)) := by simp [mD]
@[simp high] theorem md_given : dget (mD g rm rr rd rt M) (.inr (S [103, 105, 118, 101, 110])) = some (.int (M.given : Nat)) := by simp [mD]
@[simp high] theorem md_deeds : dget (mD g rm rr rd rt M) (.inr (S [100, 101, 101, 100, 115])) = some (.ref rd) := by simp [mD]
@[simp high] theorem md_word : dget (mD g rm rr rd rt M) (.inr (S [119, 111, 114, 100])) = some (.str M.word) := by simp [mD]
@[simp high] theorem md_done : dget (mD g rm rr rd rt M) (.inr (S [100, 111, 110, 101])) = some (.int M.done) := by simp [mD]
@[simp high] theorem md_met : dget (mD g rm rr rd rt M) (.inr (S [109, 101, 116])) = some (.ref rt) := by simp [mD]
@[simp high] theorem mds_at (v : Int) : dset (mD g rm rr rd rt M) (.inr (S [97, 116])) (.int v) = mD g rm rr rd rt { M with at_ := v } := by simp [mD]
@[simp high] theorem mds_word (v : Str) : dset (mD g rm rr rd rt M) (.inr (S [119, 111, 114, 100])) (.str v) = mD g rm rr rd rt { M with word := v } := by simp [mD]
@[simp high] theorem mds_done (v : Int) : dset (mD g rm rr rd rt M) (.inr (S [100, 111, 110, 101])) (.int v) = mD g rm rr rd rt { M with done := v } := by simp [mD]
@[simp high] theorem mds_given : dset (mD g rm rr rd rt M) (.inr (S [103, 105, 118, 101, 110])) (.int ((M.given : Int) + 1)) = mD g rm rr rd rt { M with given := M.given + 1 } := by simp [mD]
@[simp high] theorem md_len : (mD g rm rr rd rt M).length = 11 := (rfl)
theorem mD_regs (x : List Int) : mD g rm rr rd rt { M with regs := x } = mD g rm rr rd rt M := rfl
end
section
variable {h : VH} {g : MG} {m rm rr rd rt : Nat} {M : MS}
theorem MR.ne2 (a : MR h g m rm rr rd rt M) : m ≠ rm ∧ m ≠ rr ∧ m ≠ rd ∧ m ≠ rt ∧ rm ≠ m ∧ rr ≠ m ∧ rd ≠ m ∧ rt ≠ m ∧ rm ≠ rr ∧ rm ≠ rd ∧ rm ≠ rt ∧ rr ≠ rd ∧ rr ≠ rt ∧ rd ≠ rt ∧ rr ≠ rm ∧ rd ≠ rm ∧ rt ≠ rm ∧ rd ≠ rr ∧ rt ≠ rr ∧ rt ≠ rd := by
  have h1 : m ≠ rm := ne_of_get a.hm a.hmm (by simp)
  have h2 : m ≠ rr := ne_of_get a.hm a.hrr (by simp)
  have h3 : m ≠ rd := ne_of_get a.hm a.hrd (by simp)
  have h4 : m ≠ rt := ne_of_get a.hm a.hrt (by simp)
  obtain ⟨n1, n2, n3, n4, n5, n6⟩ := a.ne
  exact ⟨h1, h2, h3, h4, h1.symm, h2.symm, h3.symm, h4.symm, n1, n2, n3, n4, n5, n6, n1.symm, n2.symm, n3.symm, n4.symm, n5.symm, n6.symm⟩
theorem MR.dict (a : MR h g m rm rr rd rt M) {M' : MS} (e1 : M'.mem = M.mem) (e2 : M'.regs = M.regs) (e3 : M'.deeds = M.deeds) (e4 : M'.met = M.met) : MR (hs h m (.dct (mD g rm rr rd rt M'))) g m rm rr rd rt M' := by
  obtain ⟨n1, n2, n3, n4, _⟩ := a.ne2
  exact ⟨by simp [a.hm], by simp [n1, a.hmm, e1], by simp [n2, a.hrr, e2], by simp [n3, a.hrd, e3], by simp [n4, a.hrt, e4], a.ne⟩
theorem MR.rg (a : MR h g m rm rr rd rt M) {l : List W} {x : List Int} (e : l = x.map W.int) : MR (hs h rr (.lst l)) g m rm rr rd rt { M with regs := x } := by
  obtain ⟨n1, n2, n3, n4, n5, n6, n7, n8, n9, n10, n11, n12, n13, n14, n15, n16, n17, n18, n19, n20⟩ := a.ne2
  exact ⟨by simp [a.hm, n6]; rfl, by simp [n15, a.hmm], by simp [a.hrr, e], by simp [a.hrd, n12], by simp [a.hrt, n13], a.ne⟩
theorem MR.mm (a : MR h g m rm rr rd rt M) {l : List W} {x : List Int} (e : l = x.map W.int) : MR (hs h rm (.lst l)) g m rm rr rd rt { M with mem := x } := by
  obtain ⟨n1, n2, n3, n4, n5, n6, n7, n8, n9, n10, n11, n12, n13, n14, n15, n16, n17, n18, n19, n20⟩ := a.ne2
  exact ⟨by simp [a.hm, n5]; rfl, by simp [a.hmm, e], by simp [a.hrr, n9], by simp [a.hrd, n10], by simp [a.hrt, n11], a.ne⟩
theorem MR.dd (a : MR h g m rm rr rd rt M) {l : List W} : MR (hs h rd (.lst l)) g m rm rr rd rt { M with deeds := l } := by
  obtain ⟨n1, n2, n3, n4, n5, n6, n7, n8, n9, n10, n11, n12, n13, n14, n15, n16, n17, n18, n19, n20⟩ := a.ne2
  exact ⟨by simp [a.hm, n7]; rfl, by simp [a.hmm, n16], by simp [a.hrr, n18], by simp [a.hrd], by simp [a.hrt, n14], a.ne⟩
theorem MR.mt (a : MR h g m rm rr rd rt M) {l : List W} : MR (hs h rt (.lst l)) g m rm rr rd rt { M with met := l } := by
  obtain ⟨n1, n2, n3, n4, n5, n6, n7, n8, n9, n10, n11, n12, n13, n14, n15, n16, n17, n18, n19, n20⟩ := a.ne2
  exact ⟨by simp [a.hm, n8]; rfl, by simp [a.hmm, n17], by simp [a.hrr, n19], by simp [a.hrd, n20], by simp [a.hrt], a.ne⟩
theorem MF.m0 {h : VH} {o : O} : Mod (MF m rm rr rd rt) h (hs h m o) := Mod.set (by simp [MF])
theorem MF.m1 {h : VH} {o : O} : Mod (MF m rm rr rd rt) h (hs h rm o) := Mod.set (by simp [MF])
theorem MF.m2 {h : VH} {o : O} : Mod (MF m rm rr rd rt) h (hs h rr o) := Mod.set (by simp [MF])
theorem MF.m3 {h : VH} {o : O} : Mod (MF m rm rr rd rt) h (hs h rd o) := Mod.set (by simp [MF])
theorem MF.m4 {h : VH} {o : O} : Mod (MF m rm rr rd rt) h (hs h rt o) := Mod.set (by simp [MF])
theorem c_met {n b : Nat} {i : Ins} (a : MR h g m rm rr rd rt M) (w : MW g b M) (hb : b < 1000000) (ok : InsOk i) (hi : (∃ r b n, i = .load r b n) ∨ ∃ r b n, i = .store r b n) (gb : 0 ≤ g.base) :
    Run (prg.call (n + 1) f_law_met [.ref m, insW i] h) fun x h' => x = .non ∧ MR h' g m rm rr rd rt (stepI g M i) ∧ Mod (MF m rm rr rd rt) h h' := by
  refine run_q fun Q q => ?_
  obtain ⟨n1, n2, n3, n4, n5, n6, n7, n8, n9, n10, n11, n12, n13, n14, n15, n16, n17, n18, n19, n20⟩ := a.ne2
  have h1 := a.hm
  have h2 := a.hmm
  have h3 := a.hrr
  have h4 := a.hrd
  have h5 := a.hrt
  have l1 : M.met.length < 16777216 := by have := w.met; omega
  have len := w.regs
  rw [u_law_met]
  rcases hi with ⟨r, c, k, rfl⟩ | ⟨r, c, k, rfl⟩
  · obtain ⟨⟨r0, r1⟩, ⟨c0, c1⟩, k0, k1⟩ := ok
    have e1 := at_gI (l := M.regs) (i := c) c0 (by omega)
    generalize hp : (gI M.regs c + k) % 4294967296 = p
    have p0 : 0 ≤ p := by omega
    simp [b_law_met, insW, insL, h1, h2, h3, h5, l1, e1, hp, n4, n8, n11, n17]
    refine run_ite (fun c => ?_) (fun c => ?_)
    · simp [c]
      have := (a.mt (l := M.met ++ [.tup [.int (M.at_ - 1), .int p]])).dict (M' := { M with met := M.met ++ [.tup [.int (M.at_ - 1), .int p]], word := (S [102, 97, 117, 108, 116]) }) rfl rfl rfl rfl
      refine q _ _ ⟨rfl, ?_, MF.m4.trans MF.m0⟩
      simp only [stepI, hp, if_pos c]
      exact this
    · have e2 := at_gI (l := M.mem) (i := p) p0 (by omega)
      simp [c, h3, h2, e2, r0, len, r1, n19, n17]
      have := (a.mt (l := M.met ++ [.tup [.int (M.at_ - 1), .int p]])).rg (l := (M.regs.map W.int).set r.toNat (.int (gI M.mem p))) (x := M.regs.set r.toNat (gI M.mem p)) (by simp)
      refine q _ _ ⟨rfl, ?_, MF.m4.trans MF.m2⟩
      simp only [stepI, hp, if_neg c]
      exact this
  · obtain ⟨⟨r0, r1⟩, ⟨c0, c1⟩, k0, k1⟩ := ok
    have e1 := at_gI (l := M.regs) (i := c) c0 (by omega)
    have e3 := at_gI (l := M.regs) (i := r) r0 (by omega)
    generalize hp : (gI M.regs c + k) % 4294967296 = p
    have p0 : 0 ≤ p := by omega
    simp [b_law_met, insW, insL, h1, h2, h3, h5, l1, e1, hp, n4, n8, n11, n17]
    have fl : (M.mem.length : Int) ≤ p ∨ p < g.base → MR (hs (hs h rt (.lst (M.met ++ [.tup [.int (M.at_ - 1), .int p]]))) m (.dct (mD g rm rr rd rt { M with met := M.met, word := (S [102, 97, 117, 108, 116]) }))) g m rm rr rd rt (stepI g M (.store r c k)) := fun c => by
      have := (a.mt (l := M.met ++ [.tup [.int (M.at_ - 1), .int p]])).dict (M' := { M with met := M.met ++ [.tup [.int (M.at_ - 1), .int p]], word := (S [102, 97, 117, 108, 116]) }) rfl rfl rfl rfl
      simp only [stepI, hp, if_pos c]
      exact this
    by_cases c1 : (M.mem.length : Int) ≤ p
    · simp [c1]
      exact q _ _ ⟨rfl, fl (.inl c1), MF.m4.trans MF.m0⟩
    · by_cases c2 : p < g.base
      · simp [c1, c2]
        exact q _ _ ⟨rfl, fl (.inr c2), MF.m4.trans MF.m0⟩
      · have c3 : p < M.mem.length := by omega
        simp [c1, c2, h3, h2, e3, p0, c3, n19, n17]
        have := (a.mt (l := M.met ++ [.tup [.int (M.at_ - 1), .int p]])).mm (l := (M.mem.map W.int).set p.toNat (.int (gI M.regs r))) (x := M.mem.set p.toNat (gI M.regs r)) (by simp)
        refine q _ _ ⟨rfl, ?_, MF.m4.trans MF.m1⟩
        simp only [stepI, hp, if_neg (show ¬ ((M.mem.length : Int) ≤ p ∨ p < g.base) by omega)]
        exact this
theorem c_told {n b : Nat} {i : Ins} (a : MR h g m rm rr rd rt M) (w : MW g b M) (hb : b < 1000000) (ok : InsOk i) (hi : (∃ p r, i = .send p r) ∨ (∃ r p, i = .ask r p) ∨ (∃ r p, i = .take r p) ∨ (∃ r, i = .time r) ∨ i = .rest) :
    Run (prg.call (n + 1) f_law_told [.ref m, insW i] h) fun x h' => x = .non ∧ MR h' g m rm rr rd rt (stepI g M i) ∧ Mod (MF m rm rr rd rt) h h' := by
  refine run_q fun Q q => ?_
  obtain ⟨n1, n2, n3, n4, n5, n6, n7, n8, n9, n10, n11, n12, n13, n14, n15, n16, n17, n18, n19, n20⟩ := a.ne2
  have h1 := a.hm
  have h2 := a.hmm
  have h3 := a.hrr
  have h4 := a.hrd
  have h5 := a.hrt
  have l1 : M.deeds.length < 16777216 := by have := w.deeds; omega
  have len := w.regs
  have gv := w.given
  have ask : ∀ (s : Str) (r : Int) (d : W), isR r → M.given ≠ g.ans.length → MR (hs (hs (hs h m (.dct (mD g rm rr rd rt { M with given := M.given + 1 }))) rr (.lst ((M.regs.map W.int).set r.toNat (.int (gI g.ans M.given))))) rd (.lst (M.deeds ++ [d]))) g m rm rr rd rt
      { M with given := M.given + 1, regs := M.regs.set r.toNat (gI g.ans M.given), deeds := M.deeds ++ [d] } := fun s r d hr c => by
    exact ((a.dict (M' := { M with given := M.given + 1 }) rfl rfl rfl rfl).rg (l := (M.regs.map W.int).set r.toNat (.int (gI g.ans M.given))) (x := M.regs.set r.toNat (gI g.ans M.given)) (by simp)).dd (l := M.deeds ++ [d])
  have opn : MR (hs h m (.dct (mD g rm rr rd rt { M with word := (S [111, 112, 101, 110]) }))) g m rm rr rd rt { M with word := (S [111, 112, 101, 110]) } := a.dict rfl rfl rfl rfl
  rw [u_law_told]
  rcases hi with ⟨p, r, rfl⟩ | ⟨r, p, rfl⟩ | ⟨r, p, rfl⟩ | ⟨r, rfl⟩ | rfl
  · obtain ⟨⟨p0, p1⟩, r0, r1⟩ := ok
    have e1 := at_gI (l := M.regs) (i := r) r0 (by omega)
    simp [b_law_told, insW, insL, h1, h2, h3, h4, h5, l1, e1]
    exact q _ _ ⟨rfl, a.dd, MF.m3⟩
  · obtain ⟨⟨r0, r1⟩, p0, p1⟩ := ok
    simp [b_law_told, insW, insL, h1]
    refine run_ite (fun c => ?_) (fun c => ?_)
    · have c' : M.given = g.ans.length := by omega
      simp [h1]
      refine q _ _ ⟨rfl, ?_, MF.m0⟩
      simp only [stepI, if_pos c']
      exact opn
    · have c' : ¬ M.given = g.ans.length := by omega
      have e1 := at_gI (l := g.ans) (i := (M.given : Int)) (by omega) (by omega)
      simp [h1, e1, h3, h4, r0, r1, len, l1, n2, n3, n6, n7, n12, n18]
      refine q _ _ ⟨rfl, ?_, (MF.m0.trans MF.m2).trans MF.m3⟩
      simp only [stepI, if_neg c']
      exact ask (S [97, 115, 107]) r _ ⟨r0, r1⟩ c'
  · obtain ⟨⟨r0, r1⟩, p0, p1⟩ := ok
    simp [b_law_told, insW, insL, h1]
    refine run_ite (fun c => ?_) (fun c => ?_)
    · have c' : M.given = g.ans.length := by omega
      simp [h1]
      refine q _ _ ⟨rfl, ?_, MF.m0⟩
      simp only [stepI, if_pos c']
      exact opn
    · have c' : ¬ M.given = g.ans.length := by omega
      have e1 := at_gI (l := g.ans) (i := (M.given : Int)) (by omega) (by omega)
      simp [h1, e1, h3, h4, r0, r1, len, l1, n2, n3, n6, n7, n12, n18]
      refine q _ _ ⟨rfl, ?_, (MF.m0.trans MF.m2).trans MF.m3⟩
      simp only [stepI, if_neg c']
      exact ask (S [97, 115, 107]) r _ ⟨r0, r1⟩ c'
  · obtain ⟨r0, r1⟩ := ok
    simp [b_law_told, insW, insL, h1]
    refine run_ite (fun c => ?_) (fun c => ?_)
    · have c' : M.given = g.ans.length := by omega
      simp [h1]
      refine q _ _ ⟨rfl, ?_, MF.m0⟩
      simp only [stepI, if_pos c']
      exact opn
    · have c' : ¬ M.given = g.ans.length := by omega
      have e1 := at_gI (l := g.ans) (i := (M.given : Int)) (by omega) (by omega)
      simp [h1, e1, h3, h4, r0, r1, len, l1, n2, n3, n6, n7, n12, n18]
      refine q _ _ ⟨rfl, ?_, (MF.m0.trans MF.m2).trans MF.m3⟩
      simp only [stepI, if_neg c']
      exact ask (S [97, 115, 107]) r _ ⟨r0, r1⟩ c'
  · simp [b_law_told, insW, insL, h1, h4, l1]
    exact q _ _ ⟨rfl, a.dd, MF.m3⟩
end
end Nw

set_option Elab.async false
set_option linter.all false
set_option maxRecDepth 100000
set_option maxHeartbeats 4000000
/-! The laws' own machine: an instruction; a run. -/
namespace Nw
open PySem PySem.Spec PyProof.Rows L2
section
variable {h : VH} {g : MG} {m rm rr rd rt : Nat} {M : MS}
theorem MW.at (w : MW g b M) : MW g b { M with at_ := M.at_ + 1 } := ⟨w.regs, w.isW, w.memW, w.given, w.deeds, w.met, by have := w.at0; show 0 ≤ M.at_ + 1; omega⟩
theorem c_instr {n b : Nat} {i : Ins} (a : MR h g m rm rr rd rt M) (w : MW g b M) (hb : b < 1000000) (ok : InsOk i) (gb : 0 ≤ g.base) :
    Run (prg.call (n + 2) f_law_instruction [.ref m, insW i] h) fun x h' => x = .non ∧ MR h' g m rm rr rd rt (step g M i) ∧ Mod (MF m rm rr rd rt) h h' := by
  refine run_q fun Q q => ?_
  have a1 := a.dict (M' := { M with at_ := M.at_ + 1 }) rfl rfl rfl rfl
  have w1 := w.at
  obtain ⟨n1, n2, n3, n4, n5, n6, n7, n8, n9, n10, n11, n12, n13, n14, n15, n16, n17, n18, n19, n20⟩ := a.ne2
  have h1 := a.hm
  have h3 := a.hrr
  have len := w.regs
  have fin : ∀ {h1 : VH} {l : List W} (x : List Int) (_ : l = x.map W.int) (_ : MR h1 g m rm rr rd rt (stepI g { M with at_ := M.at_ + 1 } i)) (_ : Mod (MF m rm rr rd rt) h h1), x = (stepI g { M with at_ := M.at_ + 1 } i).regs.set 0 0 → Q .non (hs h1 rr (.lst l)) := fun x e a m e2 =>
    q _ _ ⟨rfl, by rw [e2] at e; exact a.rg e, m.trans MF.m2⟩
  rw [u_law_instruction]
  have tl : ∀ {x : W} {h' : VH}, x = .non ∧ MR h' g m rm rr rd rt (stepI g { M with at_ := M.at_ + 1 } i) ∧ Mod (MF m rm rr rd rt) (hs h m (.dct (mD g rm rr rd rt { M with at_ := M.at_ + 1 }))) h' → (stepI g { M with at_ := M.at_ + 1 } i).regs.length = 8 →
      hg h' rr = some (.lst ((stepI g { M with at_ := M.at_ + 1 } i).regs.map W.int)) ∧ Q .non (hs h' rr (.lst (((stepI g { M with at_ := M.at_ + 1 } i).regs.map W.int).set 0 (.int 0)))) := fun ⟨_, a, m⟩ _ =>
    ⟨a.hrr, fin ((stepI g { M with at_ := M.at_ + 1 } i).regs.set 0 0) (by simp) a (MF.m0.trans m) rfl⟩
  cases i with
  | fin s =>
    simp [b_law_instruction, insW, insL, h1, h3, len, n2]
    exact fin (M.regs.set 0 0) (by simp) (a1.dict rfl rfl rfl rfl) (MF.m0.trans MF.m0) rfl
  | set r k =>
    obtain ⟨⟨r0, r1⟩, k0, k1⟩ := ok
    simp [b_law_instruction, insW, insL, h1, h3, r0, r1, len, n2]
    exact fin ((M.regs.set r.toNat k).set 0 0) (by simp) (a1.rg (x := M.regs.set r.toNat k) (by simp)) (MF.m0.trans MF.m2) rfl
  | high r k =>
    obtain ⟨⟨r0, r1⟩, k0, k1⟩ := ok
    have e1 := at_gI (l := M.regs) (i := r) r0 (by omega)
    simp [b_law_instruction, insW, insL, h1, h3, r0, r1, len, n2, e1]
    exact fin ((M.regs.set r.toNat (k * 65536 + gI M.regs r % 65536)).set 0 0) (by simp) (a1.rg (x := M.regs.set r.toNat (k * 65536 + gI M.regs r % 65536)) (by simp)) (MF.m0.trans MF.m2) rfl
  | op s d x y =>
    obtain ⟨hs, ⟨d0, d1⟩, ⟨x0, x1⟩, y0, y1⟩ := ok
    have e1 := at_gI (l := M.regs) (i := x) x0 (by omega)
    have e2 := at_gI (l := M.regs) (i := y) y0 (by omega)
    simp [b_law_instruction, insW, insL, h1, h3, d0, d1, len, n2, e1, e2]
    refine run_bind (c_operate hs (isW_gI w.isW x) (isW_gI w.isW y)) ?_
    rintro _ _ ⟨rfl, rfl⟩
    simp [h3, n2, d0, d1, len]
    exact fin ((M.regs.set d.toNat (opI s (gI M.regs x) (gI M.regs y))).set 0 0) (by simp) (a1.rg (x := M.regs.set d.toNat (opI s (gI M.regs x) (gI M.regs y))) (by simp)) (MF.m0.trans MF.m2) rfl
  | load r c k =>
    simp [b_law_instruction, insW, insL, h1, h3, len, n2]
    refine run_bind (c_met a1 w1 hb ok (.inl ⟨_, _, _, rfl⟩) gb) ?_
    intro x h' z
    obtain ⟨e1, e2⟩ := tl z (by simp only [stepI]; split <;> simp [len])
    have e3 : (stepI g { M with at_ := M.at_ + 1 } (.load r c k)).regs.length = 8 := by simp only [stepI]; split <;> simp [len]
    simp [e1, e3]
    exact e2
  | store r c k =>
    simp [b_law_instruction, insW, insL, h1, h3, len, n2]
    refine run_bind (c_met a1 w1 hb ok (.inr ⟨_, _, _, rfl⟩) gb) ?_
    intro x h' z
    obtain ⟨e1, e2⟩ := tl z (by simp only [stepI]; split <;> simp [len])
    have e3 : (stepI g { M with at_ := M.at_ + 1 } (.store r c k)).regs.length = 8 := by simp only [stepI]; split <;> simp [len]
    simp [e1, e3]
    exact e2
  | go k =>
    simp [b_law_instruction, insW, insL, h1, h3, len, n2]
    exact fin (M.regs.set 0 0) (by simp) (a1.dict (M' := { M with at_ := k }) rfl rfl rfl rfl) (MF.m0.trans MF.m0) rfl
  | unl r k =>
    obtain ⟨⟨r0, r1⟩, k0, k1⟩ := ok
    have e1 := at_gI (l := M.regs) (i := r) r0 (by omega)
    simp [b_law_instruction, insW, insL, h1, h3, len, n2, e1]
    refine run_ite (fun c => ?_) (fun c => ?_)
    · simp [h3, h1, n2, len]
      refine fin (M.regs.set 0 0) (by simp) ?_ (MF.m0.trans MF.m0) ?_
      · simp only [stepI, if_pos c]; exact a1.dict (M' := { M with at_ := k }) rfl rfl rfl rfl
      · simp only [stepI, if_pos c]
    · simp [h3, h1, n2, len]
      refine fin (M.regs.set 0 0) (by simp) ?_ MF.m0 ?_
      · simp only [stepI, if_neg c]; exact a1
      · simp only [stepI, if_neg c]
  | call r k =>
    obtain ⟨⟨r0, r1⟩, k0, k1⟩ := ok
    simp [b_law_instruction, insW, insL, h1, h3, r0, r1, len, n2, n6]
    exact fin ((M.regs.set r.toNat (M.at_ + 1)).set 0 0) (by simp) ((a1.rg (x := M.regs.set r.toNat (M.at_ + 1)) (by simp)).dict (M' := { M with at_ := k, regs := M.regs.set r.toNat (M.at_ + 1) }) rfl rfl rfl rfl) ((MF.m0.trans MF.m2).trans MF.m0) rfl
  | back r =>
    obtain ⟨r0, r1⟩ := ok
    have e1 := at_gI (l := M.regs) (i := r) r0 (by omega)
    simp [b_law_instruction, insW, insL, h1, h3, len, n2, e1]
    exact fin (M.regs.set 0 0) (by simp) (a1.dict (M' := { M with at_ := gI M.regs r }) rfl rfl rfl rfl) (MF.m0.trans MF.m0) rfl
  | send p r =>
    simp [b_law_instruction, insW, insL, h1, h3, len, n2]
    refine run_bind (c_told a1 w1 hb ok (by simp)) ?_
    intro x h' z
    have e3 : (stepI g { M with at_ := M.at_ + 1 } (.send p r)).regs.length = 8 := by simp [stepI, len]
    obtain ⟨e1, e2⟩ := tl z e3
    simp [e1, e3]
    exact e2
  | ask r p =>
    simp [b_law_instruction, insW, insL, h1, h3, len, n2]
    refine run_bind (c_told a1 w1 hb ok (by simp)) ?_
    intro x h' z
    have e3 : (stepI g { M with at_ := M.at_ + 1 } (.ask r p)).regs.length = 8 := by simp only [stepI]; split <;> simp [len]
    obtain ⟨e1, e2⟩ := tl z e3
    simp [e1, e3]
    exact e2
  | take r p =>
    simp [b_law_instruction, insW, insL, h1, h3, len, n2]
    refine run_bind (c_told a1 w1 hb ok (by simp)) ?_
    intro x h' z
    have e3 : (stepI g { M with at_ := M.at_ + 1 } (.take r p)).regs.length = 8 := by simp only [stepI]; split <;> simp [len]
    obtain ⟨e1, e2⟩ := tl z e3
    simp [e1, e3]
    exact e2
  | time r =>
    simp [b_law_instruction, insW, insL, h1, h3, len, n2]
    refine run_bind (c_told a1 w1 hb ok (by simp)) ?_
    intro x h' z
    have e3 : (stepI g { M with at_ := M.at_ + 1 } (.time r)).regs.length = 8 := by simp only [stepI]; split <;> simp [len]
    obtain ⟨e1, e2⟩ := tl z e3
    simp [e1, e3]
    exact e2
  | rest =>
    simp [b_law_instruction, insW, insL, h1, h3, len, n2]
    refine run_bind (c_told a1 w1 hb ok (by simp)) ?_
    intro x h' z
    have e3 : (stepI g { M with at_ := M.at_ + 1 } .rest).regs.length = 8 := by simp [stepI, len]
    obtain ⟨e1, e2⟩ := tl z e3
    simp [e1, e3]
    exact e2
end
end Nw

set_option Elab.async false
set_option linter.all false
set_option maxRecDepth 100000
set_option maxHeartbeats 4000000
/-! The laws' own machine: what a step keeps. -/
namespace Nw
open PySem PySem.Spec PyProof.Rows L2
section
variable {h : VH} {g : MG} {m rm rr rd rt : Nat} {M : MS}
theorem isW_set {l : List Int} (h : ∀ x ∈ l, isW x) {i : Nat} {v : Int} (hv : isW v) : ∀ x ∈ l.set i v, isW x := fun x hx => by
  rcases List.mem_or_eq_of_mem_set hx with z | z
  · exact h x z
  · exact z ▸ hv
theorem isW_n {n : Int} (h : isN n) : isW n := ⟨h.1, by have := h.2; omega⟩
/-- where the machine stands is small enough to be a word -/
theorem MW.step {b : Nat} {i : Ins} (w : MW g b M) (ok : InsOk i) (ha : ∀ x ∈ g.ans, Nw.isW x) (at1 : M.at_ + 1 < 4294967296) : MW g (b + 1) (step g M i) := by
  have z : Nw.isW 0 := ⟨by decide, by decide⟩
  have wa : Nw.isW (M.at_ + 1) := ⟨by have := w.at0; omega, at1⟩
  obtain ⟨w1, w2, w3, w4, w5, w6, w7⟩ := w
  have reg : ∀ v, Nw.isW v → ∀ r : Int, ∀ x ∈ (M.regs.set r.toNat v).set 0 0, Nw.isW x := fun v hv r => isW_set (isW_set w2 hv) z
  cases i with
  | fin s => exact ⟨by simp [Nw.step, stepI, w1], isW_set w2 z, w3, w4, by simp [Nw.step, stepI]; omega, by simp [Nw.step, stepI]; omega, by simp [Nw.step, stepI]; omega⟩
  | set r n => exact ⟨by simp [Nw.step, stepI, w1], reg _ (isW_n ok.2) r, w3, w4, by simp [Nw.step, stepI]; omega, by simp [Nw.step, stepI]; omega, by simp [Nw.step, stepI]; omega⟩
  | high r n => exact ⟨by simp [Nw.step, stepI, w1], reg _ (by have := ok.2.1; have := ok.2.2; exact ⟨by omega, by omega⟩) r, w3, w4, by simp [Nw.step, stepI]; omega, by simp [Nw.step, stepI]; omega, by simp [Nw.step, stepI]; omega⟩
  | op s d x y => exact ⟨by simp [Nw.step, stepI, w1], reg _ (opI_w (isW_gI w2 _) (isW_gI w2 _)) d, w3, w4, by simp [Nw.step, stepI]; omega, by simp [Nw.step, stepI]; omega, by simp [Nw.step, stepI]; omega⟩
  | load r c k =>
    simp only [Nw.step, stepI]
    split
    · exact ⟨by simp [w1], isW_set w2 z, w3, w4, by simp; omega, by simp; omega, by simp; omega⟩
    · exact ⟨by simp [w1], reg _ (isW_gI w3 _) r, w3, w4, by simp; omega, by simp; omega, by simp; omega⟩
  | store r c k =>
    simp only [Nw.step, stepI]
    split
    · exact ⟨by simp [w1], isW_set w2 z, w3, w4, by simp; omega, by simp; omega, by simp; omega⟩
    · exact ⟨by simp [w1], isW_set w2 z, isW_set w3 (isW_gI w2 _), w4, by simp; omega, by simp; omega, by simp; omega⟩
  | go n => exact ⟨by simp [Nw.step, stepI, w1], isW_set w2 z, w3, w4, by simp [Nw.step, stepI]; omega, by simp [Nw.step, stepI]; omega, by simp [Nw.step, stepI]; exact ok.1⟩
  | unl r n =>
    simp only [Nw.step, stepI]
    split
    · exact ⟨by simp [w1], isW_set w2 z, w3, w4, by simp; omega, by simp; omega, ok.2.1⟩
    · exact ⟨by simp [w1], isW_set w2 z, w3, w4, by simp; omega, by simp; omega, by simp; omega⟩
  | call r n => exact ⟨by simp [Nw.step, stepI, w1], reg _ wa r, w3, w4, by simp [Nw.step, stepI]; omega, by simp [Nw.step, stepI]; omega, ok.2.1⟩
  | back r => exact ⟨by simp [Nw.step, stepI, w1], isW_set w2 z, w3, w4, by simp [Nw.step, stepI]; omega, by simp [Nw.step, stepI]; omega, (isW_gI w2 r).1⟩
  | send p r => exact ⟨by simp [Nw.step, stepI, w1], isW_set w2 z, w3, w4, by simp [Nw.step, stepI]; omega, by simp [Nw.step, stepI]; omega, by simp [Nw.step, stepI]; omega⟩
  | ask r p =>
    simp only [Nw.step, stepI]
    split
    · exact ⟨by simp [w1], isW_set w2 z, w3, w4, by simp; omega, by simp; omega, by simp; omega⟩
    · exact ⟨by simp [w1], reg _ (isW_gI ha _) r, w3, by simp; omega, by simp; omega, by simp; omega, by simp; omega⟩
  | take r p =>
    simp only [Nw.step, stepI]
    split
    · exact ⟨by simp [w1], isW_set w2 z, w3, w4, by simp; omega, by simp; omega, by simp; omega⟩
    · exact ⟨by simp [w1], reg _ (isW_gI ha _) r, w3, by simp; omega, by simp; omega, by simp; omega, by simp; omega⟩
  | time r =>
    simp only [Nw.step, stepI]
    split
    · exact ⟨by simp [w1], isW_set w2 z, w3, w4, by simp; omega, by simp; omega, by simp; omega⟩
    · exact ⟨by simp [w1], reg _ (isW_gI ha _) r, w3, by simp; omega, by simp; omega, by simp; omega, by simp; omega⟩
  | rest => exact ⟨by simp [Nw.step, stepI, w1], isW_set w2 z, w3, w4, by simp [Nw.step, stepI]; omega, by simp [Nw.step, stepI]; omega, by simp [Nw.step, stepI]; omega⟩
end
end Nw

set_option Elab.async false
set_option linter.all false
set_option maxRecDepth 100000
set_option maxHeartbeats 4000000
/-! The laws' own machine: laying it. -/
namespace Nw
open PySem PySem.Spec PyProof.Rows L2
def kindN : Ins → Nat
  | .fin _ => 0 | .set _ _ => 1 | .high _ _ => 2 | .op _ _ _ _ => 3 | .load _ _ _ => 4 | .store _ _ _ => 5 | .go _ => 6 | .unl _ _ => 7 | .call _ _ => 8 | .back _ => 9 | .send _ _ => 10 | .ask _ _ => 11 | .take _ _ => 12 | .time _ => 13 | .rest => 14
def kindS : Ins → Str
  | .fin _ => (S [101, 110, 100]) | .set _ _ => (S [115, 101, 116]) | .high _ _ => (S [104, 105, 103, 104]) | .op _ _ _ _ => (S [111, 112]) | .load _ _ _ => (S [108, 111, 97, 100]) | .store _ _ _ => (S [115, 116, 111, 114, 101]) | .go _ => (S [103, 111]) | .unl _ _ => (S [117, 110, 108, 101, 115, 115]) | .call _ _ => (S [99, 97, 108, 108]) | .back _ => (S [98, 97, 99, 107]) | .send _ _ => (S [115, 101, 110, 100]) | .ask _ _ => (S [97, 115, 107]) | .take _ _ => (S [116, 97, 107, 101]) | .time _ => (S [116, 105, 109, 101]) | .rest => (S [114, 101, 115, 116])
theorem insL_head (i : Ins) : ∃ t, insL i = .str (kindS i) :: t := by cases i <;> exact ⟨_, rfl⟩
theorem c_signs {n : Nat} {h : VH} : Run (prg.call (n + 1) f_law_signs [] h) fun r h' => r = .tup (signs.map W.str) ∧ h' = h := by
  rw [u_law_signs]
  simp [b_law_signs]
theorem c_number {n : Nat} {h : VH} (i : Ins) : Run (prg.call (n + 1) f_law_number [.str (kindS i)] h) fun r h' => r = .int (kindN i) ∧ Mod no h h' := by
  refine run_q fun Q q => ?_
  rw [u_law_number]
  have m : ∀ o, Mod no h (hn h o) := fun o => Mod.new
  cases i <;> (simp [b_law_number, kindS, List.findIdx?_cons]; exact q _ _ ⟨rfl, m _⟩)
def signN (s : Str) : Nat := (signs.findIdx? (fun y => decide (y = s))).getD 0
def codeN (i : Ins) : Int := kindN i * 134217728 + match i with
  | .fin s => if s = (S [98, 111, 117, 110, 100]) then 1 else 0
  | .set r n => r * 16777216 + n
  | .high r n => r * 16777216 + n
  | .op s d a b => d * 16777216 + a * 2097152 + (signN s : Int) * 131072 + b
  | .load r b n => r * 16777216 + b * 2097152 + n
  | .store r b n => r * 16777216 + b * 2097152 + n
  | .go n => n
  | .unl r n => r * 16777216 + n
  | .call r n => r * 16777216 + n
  | .back r => r * 16777216
  | .send p r => r * 16777216 + p
  | .ask r p => r * 16777216 + p
  | .take r p => r * 16777216 + p
  | .time r => r * 16777216
  | .rest => 0
theorem signN_lt {s : Str} (hs : s ∈ signs) : signN s < 12 := by
  simp only [signs, List.mem_cons, List.not_mem_nil, or_false] at hs
  rcases hs with rfl | rfl | rfl | rfl | rfl | rfl | rfl | rfl | rfl | rfl | rfl | rfl <;> simp [signN, signs, List.findIdx?_cons]
theorem codeN_w {i : Ins} (ok : InsOk i) : isW (codeN i) := by
  cases i <;> simp only [codeN, kindN, InsOk, isR, isN, isW] at ok ⊢
  case op s d a b => have := signN_lt ok.1; omega
  case fin s => split <;> omega
  all_goals omega
theorem sign_ix {s : Str} (hs : s ∈ signs) : List.findIdx? (fun y => eqF y (W.str s)) [.str (S [43]), .str (S [45]), .str (S [42]), .str (S [47]), .str (S [64]), .str (S [38]), .str (S [124]), .str (S [94]), .str (S [61, 61]), .str (S [60]), .str (S [60, 60]), .str (S [62, 62])] = some (signN s) := by
  simp only [signs, List.mem_cons, List.not_mem_nil, or_false] at hs
  rcases hs with rfl | rfl | rfl | rfl | rfl | rfl | rfl | rfl | rfl | rfl | rfl | rfl <;> simp [signN, signs, List.findIdx?_cons]
theorem c_code_word {n : Nat} {h : VH} {i : Ins} (ok : InsOk i) : Run (prg.call (n + 2) f_law_code_word [insW i] h) fun r h' => r = .int (codeN i) ∧ Mod no h h' := by
  refine run_q fun Q q => ?_
  rw [u_law_code_word]
  have num := fun (h : VH) => c_number (n := n) (h := h) i
  cases i with
  | op s d a b =>
    simp [b_law_code_word, insW, insL]
    refine run_bind (num h) ?_
    rintro _ h1 ⟨rfl, m⟩
    simp
    refine run_bind (c_signs) ?_
    rintro _ h2 ⟨rfl, rfl⟩
    simp [sign_ix ok.1]
    refine q _ _ ⟨congrArg W.int ?_, m.trans Mod.new⟩
    simp only [codeN, kindN] <;> omega
  | _ =>
    simp [b_law_code_word, insW, insL]
    refine run_bind (num h) ?_
    rintro _ h1 ⟨rfl, m⟩
    simp
    refine q _ _ ⟨congrArg W.int ?_, m⟩
    simp only [codeN, kindN] <;> omega
end Nw

set_option Elab.async false
set_option linter.all false
set_option maxRecDepth 100000
set_option maxHeartbeats 4000000
/-! The laws' own machine: laying it; a run. -/
namespace Nw
open PySem PySem.Spec PyProof.Rows L2
def up16 (n : Nat) : Nat := (n + 15) / 16 * 16
def memA (code : List Ins) (first : List Int) : List Int := code.map codeN ++ List.replicate (up16 code.length - code.length) 0 ++ first
def memOf (code : List Ins) (first : List Int) : List Int := memA code first ++ List.replicate (up16 (memA code first).length - (memA code first).length) 0
def gOf (code : List Ins) (ans : List Int) : MG := ⟨code, up16 code.length, ans⟩
def M0 (code : List Ins) (first : List Int) : MS := ⟨memOf code first, List.replicate 8 0, 0, 0, [], (S []), 0, []⟩
def guestW (code : List Ins) (first : List Int) : W := .tup [.tup (code.map insW), .int first.length, .tup (first.map W.int)]
theorem rep_int (k : Nat) : (List.replicate k (W.int 0)) = (List.replicate k (0 : Int)).map W.int := by simp
structure GOk (code : List Ins) (first : List Int) : Prop where
  ins : ∀ i ∈ code, InsOk i
  len : code.length ≤ 30000
  pos : 1 ≤ code.length
  size : first.length ≤ 1000
  firstW : ∀ x ∈ first, isW x
theorem up16_int (n : Nat) : ((n : Int) + 15) / 16 * 16 = (up16 n : Nat) := by unfold up16; omega
theorem up16_le (n : Nat) : up16 n ≤ n + 15 ∧ n ≤ up16 n := by unfold up16; omega
def FR (h0 : VH) (m rm rr rd rt : Nat) : Prop := h0.length ≤ m ∧ h0.length ≤ rm ∧ h0.length ≤ rr ∧ h0.length ≤ rd ∧ h0.length ≤ rt
theorem c_machine {n : Nat} {h : VH} {code : List Ins} {first ans : List Int} (ok : GOk code first) :
    Run (prg.call (n + 3) f_law_machine [guestW code first, .tup (ans.map W.int)] h) fun r h' => ∃ m rm rr rd rt, r = .ref m ∧ MR h' (gOf code ans) m rm rr rd rt (M0 code first) ∧ FR h m rm rr rd rt ∧ Mod no h h' := by
  refine run_q fun Q q => ?_
  rw [u_law_machine]
  have l1 := ok.len
  have l2 := ok.size
  have u1 := up16_le code.length
  have u2 := up16_le (memA code first).length
  have ln : (memA code first).length = up16 code.length + first.length := by simp [memA]; omega
  simp [b_law_machine, guestW]
  refine run_bind (lc_mapx code insW (fun i => .int (codeN i)) rfl (by omega) (fun i h1 hi m => ?_)) ?_
  · simp [e_law_machine_1]
    refine run_bind (c_code_word (ok.ins i hi)) ?_
    rintro _ h' ⟨rfl, m⟩
    simp [m]
  rintro _ h1 ⟨rfl, m1⟩
  have c1 : ((up16 code.length : Nat) : Int) - (code.length : Int) < 1073741824 := by omega
  have c2 : -1073741824 < ((up16 code.length : Nat) : Int) - (code.length : Int) := by omega
  have c3 : (((up16 code.length : Nat) : Int) - (code.length : Int)).toNat = up16 code.length - code.length := by omega
  have c4 : code.length ≤ 16777216 := by omega
  have c5 : up16 code.length - code.length ≤ 16777216 := by omega
  have c6 : code.length + (up16 code.length - code.length) ≤ 16777216 := by omega
  have c7 : code.length + (up16 code.length - code.length) + first.length ≤ 16777216 := by omega
  simp [up16_int, c1, c2, c3, c4, c5, c6, c7]
  have e9 : ((code.length : Int) + (((up16 code.length - code.length : Nat) : Int) + (first.length : Int)) + 15) / 16 * 16 - ((code.length : Int) + (((up16 code.length - code.length : Nat) : Int) + (first.length : Int))) = ((up16 (memA code first).length - (memA code first).length : Nat) : Int) := by
    have : up16 (memA code first).length = ((memA code first).length + 15) / 16 * 16 := rfl
    omega
  have d1 : ((up16 (memA code first).length - (memA code first).length : Nat) : Int) < 1073741824 := by omega
  have d2 : -1073741824 < ((up16 (memA code first).length - (memA code first).length : Nat) : Int) := by omega
  have d3 : up16 (memA code first).length - (memA code first).length ≤ 16777216 := by omega
  have d5 : ((up16 (memA code first).length - (memA code first).length : Nat) : Int) ≤ 16777216 := by omega
  have d4 : code.length + (up16 code.length - code.length + first.length) + (up16 (memA code first).length - (memA code first).length) ≤ 16777216 := by omega
  rw [e9]
  simp [d1, d2, d3, d4, d5]
  refine q _ _ ⟨nx h1 13, nx h1 8, nx h1 10, nx h1 11, nx h1 12, rfl, ⟨?_, ?_, ?_, ?_, ?_, by simp⟩, ?_, ?_⟩
  · simp [mD, gOf, M0, codeW]
  · simp [M0, memOf, memA]
  · simp [M0]
  · simp [M0]
  · simp [M0]
  · exact ⟨nx_le m1.1 _, nx_le m1.1 _, nx_le m1.1 _, nx_le m1.1 _, nx_le m1.1 _⟩
  · exact m1.trans (((((((((((((Mod.new.trans Mod.new).trans Mod.new).trans Mod.new).trans Mod.new).trans Mod.new).trans Mod.new).trans Mod.new).trans Mod.new).trans Mod.new).trans Mod.new).trans Mod.new).trans Mod.new).trans Mod.new)
/-! ### a run -/
def met1 (M : MS) : MS := { M with met := M.met ++ [.tup [.int M.at_, .int (-1)]] }
/-- one turn -/
def turn (g : MG) (M : MS) : MS := let N := step g (met1 M) ((g.code[M.at_.toNat]?).getD .rest); { N with done := N.done + 1 }
/-- it stands behind the code -/
def over (g : MG) (M : MS) : MS := if M.word = (S []) ∧ (g.code.length : Int) ≤ M.at_ then { M with word := (S [102, 97, 117, 108, 116]) } else M
def ran (g : MG) : Nat → MS → MS
  | 0, M => M
  | n + 1, M => if (over g M).word = (S []) then ran g n (turn g (over g M)) else over g M
def ranS (g : MG) (n : Nat) (M : MS) : MS := if (ran g n M).word = (S []) then { ran g n M with word := (S [115, 116, 101, 112, 115]) } else ran g n M
end Nw

set_option Elab.async false
set_option linter.all false
set_option maxRecDepth 100000
set_option maxHeartbeats 4000000
/-! The laws' own machine: a run. -/
namespace Nw
open PySem PySem.Spec PyProof.Rows L2
theorem MW.met1 {g : MG} {b : Nat} {M : MS} (w : MW g b M) : MW g (b + 1) (met1 M) :=
  ⟨w.regs, w.isW, w.memW, w.given, by have := w.deeds; show M.deeds.length ≤ b + 1; omega, by have := w.met; show (M.met ++ _).length ≤ _; simp; omega, w.at0⟩
theorem MW.done {g : MG} {b : Nat} {M : MS} {v : Int} (w : MW g b M) : MW g b { M with done := v } := ⟨w.regs, w.isW, w.memW, w.given, w.deeds, w.met, w.at0⟩
theorem MW.word {g : MG} {b : Nat} {M : MS} {v : Str} (w : MW g b M) : MW g b { M with word := v } := ⟨w.regs, w.isW, w.memW, w.given, w.deeds, w.met, w.at0⟩
theorem MW.turn {g : MG} {b : Nat} {M : MS} (w : MW g b M) (ok : ∀ i ∈ g.code, InsOk i) (ha : ∀ x ∈ g.ans, Nw.isW x) (l : M.at_ < g.code.length) (l2 : g.code.length ≤ 30000) : MW g (b + 2) (turn g M) := by
  have a0 := w.at0
  have e : g.code[M.at_.toNat]? = some g.code[M.at_.toNat] := List.getElem?_eq_getElem (by omega)
  unfold Nw.turn
  rw [e]
  exact (w.met1.step (ok _ (List.getElem_mem _)) ha (by show M.at_ + 1 < _; omega)).done
theorem MW.le {g : MG} {b c : Nat} {M : MS} (w : MW g b M) (l : b ≤ c) : MW g c M := ⟨w.regs, w.isW, w.memW, w.given, by have := w.deeds; omega, by have := w.met; omega, w.at0⟩
theorem MW.over {g : MG} {b : Nat} {M : MS} (w : MW g b M) : MW g b (over g M) := by unfold Nw.over; split; exact w.word; exact w
section
variable {h : VH} {g : MG} {m rm rr rd rt : Nat} {M : MS}
theorem MR.word (a : MR h g m rm rr rd rt M) {v : Str} : MR (hs h m (.dct (mD g rm rr rd rt { M with word := v }))) g m rm rr rd rt { M with word := v } := a.dict rfl rfl rfl rfl
/-- one turn of the run's loop -/
theorem ran_1 {n b : Nat} {env : Env} {w : W} {c0 c1 : W} (a : MR h g m rm rr rd rt M) (wf : MW g b M) (hb : b + 2 < 1000000) (ok : ∀ i ∈ g.code, InsOk i) (l2 : g.code.length ≤ 30000) (gb : 0 ≤ g.base) (e0 : env 0 = some (.tup [codeW g, c0, c1])) (e3 : env 3 = some (.ref m)) :
    Run (forF (prg.cfg (n + 2)) (.nm 4) l_law_code_ran_1 w env h) fun r h' => Mod (MF m rm rr rd rt) h h' ∧ r.2 = setv env 4 w ∧
      ((r.1 = .bk ∧ MR h' g m rm rr rd rt (over g M) ∧ (over g M).word ≠ (S [])) ∨ (r.1 = .nx ∧ (over g M).word = (S []) ∧ (over g M).at_ < g.code.length ∧ MR h' g m rm rr rd rt (turn g (over g M)))) := by
  refine run_q fun Q q => ?_
  have h1 := a.hm
  have h5 := a.hrt
  obtain ⟨n1, n2, n3, n4, n5, n6, n7, n8, n9, n10, n11, n12, n13, n14, n15, n16, n17, n18, n19, n20⟩ := a.ne2
  by_cases cw : M.word = (S [])
  · by_cases ca : (g.code.length : Int) ≤ M.at_
    · have eo : Nw.over g M = { M with word := (S [102, 97, 117, 108, 116]) } := if_pos ⟨cw, ca⟩
      simp [l_law_code_ran_1, e0, e3, h1, cw, ca, codeW]
      refine q _ _ ⟨MF.m0, rfl, .inl ⟨rfl, ?_, ?_⟩⟩
      · rw [eo]; have := a.word (v := (S [102, 97, 117, 108, 116])); simpa [cw] using this
      · rw [eo]; simp
    · have eo : Nw.over g M = M := if_neg (fun z => ca z.2)
      have a0 := wf.at0
      have e : g.code[M.at_.toNat]? = some g.code[M.at_.toNat] := List.getElem?_eq_getElem (by omega)
      have ei : atW (g.code.map insW) M.at_ = some (insW g.code[M.at_.toNat]) := by rw [atW_pos a0, List.getElem?_map, e]; rfl
      have lm : M.met.length < 16777216 := by have := wf.met; omega
      simp [l_law_code_ran_1, e0, e3, h1, cw, ca, codeW, h5, lm, n8, ei]
      have a2 : MR (hs h rt (.lst (M.met ++ [.tup [.int M.at_, .int (-1)]]))) g m rm rr rd rt (met1 M) := a.mt
      refine run_bind (c_instr a2 wf.met1 (by omega) (ok _ (List.getElem_mem (show M.at_.toNat < g.code.length by omega))) gb) ?_
      rintro _ h' ⟨rfl, a3, m3⟩
      have h6 := a3.hm
      simp [e3, h6]
      refine q _ _ ⟨(MF.m4.trans m3).trans MF.m0, rfl, .inr ⟨rfl, by rw [eo]; exact cw, by rw [eo]; omega, ?_⟩⟩
      rw [eo]
      have : Nw.turn g M = { Nw.step g (met1 M) g.code[M.at_.toNat] with done := (Nw.step g (met1 M) g.code[M.at_.toNat]).done + 1 } := by
        unfold Nw.turn; rw [e]; rfl
      rw [this]
      exact a3.dict rfl rfl rfl rfl
  · have eo : Nw.over g M = M := if_neg (fun z => cw z.1)
    simp [l_law_code_ran_1, e0, e3, h1, cw, codeW]
    exact q _ _ ⟨.rfl, rfl, .inl ⟨rfl, by rw [eo]; exact a, by rw [eo]; exact cw⟩⟩
end
theorem c_code_ran {n : Nat} {h : VH} {code : List Ins} {first ans : List Int} {steps : Nat} (ok : GOk code first) (ha : ∀ x ∈ ans, isW x) (hst : steps < 400000) :
    Run (prg.call (n + 4) f_law_code_ran [guestW code first, .tup (ans.map W.int), .int steps] h) fun r h' => ∃ m rm rr rd rt, r = .ref m ∧
      MR h' (gOf code ans) m rm rr rd rt (ranS (gOf code ans) steps (M0 code first)) ∧ MW (gOf code ans) (2 * steps) (ranS (gOf code ans) steps (M0 code first)) ∧ FR h m rm rr rd rt ∧ Mod no h h' := by
  refine run_q fun Q q => ?_
  rw [u_law_code_ran]
  have st : (steps : Int) < 2305843009213693952 := by omega
  simp [b_law_code_ran]
  refine run_bind (c_machine ok) ?_
  rintro _ h1 ⟨m, rm, rr, rd, rt, rfl, a, fr, md⟩
  simp [st]
  have mf : ∀ {x y : VH}, Mod no h x → Mod (MF m rm rr rd rt) x y → Mod no h y := fun u v => u.seq v (fun _ _ z => z) (fun q l z => by
    obtain ⟨f1, f2, f3, f4, f5⟩ := fr
    rcases z with z | z | z | z | z <;> omega)
  have w0 : MW (gOf code ans) 0 (M0 code first) := by
    have z : isW 0 := ⟨by decide, by decide⟩
    refine ⟨by simp [M0], fun x hx => ?_, fun x hx => ?_, Nat.zero_le _, Nat.zero_le _, Nat.zero_le _, Int.le_refl 0⟩
    · simp only [M0, List.mem_replicate] at hx; rw [hx.2]; exact z
    · simp only [M0, memOf, memA, List.mem_append, List.mem_replicate, List.mem_map] at hx
      rcases hx with ((⟨i, hi, rfl⟩ | hx) | hx) | hx
      · exact codeN_w (ok.ins i hi)
      · rw [hx.2]; exact z
      · exact ok.firstW x hx
      · rw [hx.2]; exact z
  have hg : ∀ i ∈ (gOf code ans).code, InsOk i := ok.ins
  have hlen : (gOf code ans).code.length ≤ 30000 := ok.len
  refine run_bind (for_inv (rangeW 0 steps) (fun i env h' => ∃ M, MR h' (gOf code ans) m rm rr rd rt M ∧ MW (gOf code ans) (2 * i) M ∧ ran (gOf code ans) steps (M0 code first) = ran (gOf code ans) (steps - i) M ∧ env 0 = some (guestW code first) ∧ env 3 = some (.ref m) ∧ Mod no h h')
    (fun fl env h' => fl = .nx ∧ ∃ M, MR h' (gOf code ans) m rm rr rd rt M ∧ MW (gOf code ans) (2 * steps) M ∧ ran (gOf code ans) steps (M0 code first) = M ∧ env 3 = some (.ref m) ∧ Mod no h h') ⟨_, a, w0, rfl, by simp, by simp, md⟩ (fun _ _ _ _ => rfl) ?_ ?_) ?_
  · rintro env h' ⟨M, b1, b2, b3, b4, b5, b6⟩
    rw [range_len] at b2 b3
    have e : ((steps : Int) - 0).toNat = steps := by omega
    rw [e] at b2 b3
    rw [Nat.sub_self] at b3
    exact ⟨rfl, M, b1, b2, b3, b5, b6⟩
  · rintro i w env h' hw ⟨M, b1, b2, b3, b4, b5, b6⟩
    obtain ⟨rfl, lt⟩ := range_at hw
    refine (ran_1 b1 b2 (by omega) hg hlen (by show (0 : Int) ≤ (up16 code.length : Nat); omega) b4 b5).imp ?_
    rintro ⟨fl, env'⟩ h'' ⟨m2, e2, z⟩
    have e2 : env' = _ := e2
    subst e2
    have r1 : steps - i = (steps - (i + 1)) + 1 := by omega
    have r2 : ran (gOf code ans) (steps - i) M = if (over (gOf code ans) M).word = (S []) then ran (gOf code ans) (steps - (i + 1)) (turn (gOf code ans) (over (gOf code ans) M)) else over (gOf code ans) M := by rw [r1]; rfl
    rcases z with ⟨rfl, z2, z3⟩ | ⟨rfl, z2, z3, z4⟩
    · simp only [aft_bk]
      exact ⟨trivial, _, z2, b2.over.le (by omega), by rw [b3, r2, if_neg z3], by simp [b5], mf b6 m2⟩
    · simp only [aft_nx]
      exact ⟨_, z4, (b2.over.turn hg ha z3 hlen).le (by omega), by rw [b3, r2, if_pos z2], by simp [b4], by simp [b5], mf b6 m2⟩
  rintro ⟨_, env⟩ h2 ⟨rfl, M, b1, b2, b3, b4, b5⟩
  dsimp only at b4
  have h3 := b1.hm
  have rs : ranS (gOf code ans) steps (M0 code first) = if M.word = (S []) then { M with word := (S [115, 116, 101, 112, 115]) } else M := by unfold ranS; rw [b3]
  by_cases cw : M.word = (S [])
  · simp [b4, h3, cw]
    refine q _ _ ⟨m, rm, rr, rd, rt, rfl, ?_, ?_, fr, mf b5 MF.m0⟩
    · rw [rs, if_pos cw]; have := b1.word (v := (S [115, 116, 101, 112, 115])); simpa [cw] using this
    · rw [rs, if_pos cw]; exact b2.word
  · simp [b4, h3, cw]
    refine q _ _ ⟨m, rm, rr, rd, rt, rfl, ?_, ?_, fr, b5⟩
    · rw [rs, if_neg cw]; exact b1
    · rw [rs, if_neg cw]; exact b2
end Nw

set_option Elab.async false
set_option linter.all false
set_option maxRecDepth 100000
set_option maxHeartbeats 4000000
/-! The laws' own look at a guest. -/
namespace Nw
open PySem PySem.Spec PyProof.Rows L2
theorem c_is_number {n : Nat} {h : VH} {v most : Int} (h0 : 0 ≤ v) (h1 : v < most) : Run (prg.call (n + 1) f_law_is_number [.int v, .int most] h) fun r h' => r = .bl true ∧ h' = h := by
  rw [u_law_is_number]
  simp [b_law_is_number, h0, h1]
theorem c_is_instruction {n : Nat} {h : VH} {i : Ins} (ok : InsOk i) : Run (prg.call (n + 2) f_law_is_instruction [insW i] h) fun r h' => r = .bl true ∧ Mod no h h' := by
  refine run_q fun Q q => ?_
  rw [u_law_is_instruction]
  cases i with
  | fin s =>
    simp only [InsOk] at ok
    rcases ok with rfl | rfl <;> (simp [b_law_is_instruction, insW, insL]; exact q _ _ ⟨rfl, .rfl⟩)
  | set k1 k2 =>
    obtain ⟨⟨k10, k11⟩, ⟨k20, k21⟩⟩ := ok
    simp [b_law_is_instruction, insW, insL]
    refine run_bind (lc_mapx [114, 110] (fun c => .str (S [c])) (fun c => .int (if c = 114 then 8 else 65536)) rfl (by simp) (fun x h1 hx m => ?_)) ?_
    · by_cases cx : x = 114
      · simp [e_law_is_instruction_1, cx, Mod.rfl]
      · simp [e_law_is_instruction_1, cx, Mod.rfl]
    rintro _ h1 ⟨rfl, m1⟩
    simp
    refine run_bind (lc_none (l := rangeW 0 2) rfl (by simp [range_len]) (fun i w h2 hw m => ?_)) ?_
    · obtain ⟨rfl, lt⟩ := range_at hw
      have e : hg h2 (nx h1 0) = _ := m.get hg_new' (fun z => z)
      have c : i = 0 ∨ i = 1 := by omega
      rcases c with rfl | rfl
      · simp [t_law_is_instruction_2, e]
        refine run_bind (c_is_number k10 k11) ?_
        rintro _ _ ⟨rfl, rfl⟩
        simp [Mod.rfl]
      · simp [t_law_is_instruction_2, e]
        refine run_bind (c_is_number k20 k21) ?_
        rintro _ _ ⟨rfl, rfl⟩
        simp [Mod.rfl]
    rintro _ h2 ⟨rfl, m2⟩
    simp
    have ee : eqW (hn (hn h2 (.lst [])) (.lst [])) (.ref (nx h2 0)) (.ref (nx h2 1)) = some true := eqW_lst (ws := []) rfl (by simp) (by simp)
    simp [ee]
    exact q _ _ ⟨rfl, (((Mod.new.trans m1).trans Mod.new).trans m2).trans (Mod.new.trans Mod.new)⟩
  | high k1 k2 =>
    obtain ⟨⟨k10, k11⟩, ⟨k20, k21⟩⟩ := ok
    simp [b_law_is_instruction, insW, insL]
    refine run_bind (lc_mapx [114, 110] (fun c => .str (S [c])) (fun c => .int (if c = 114 then 8 else 65536)) rfl (by simp) (fun x h1 hx m => ?_)) ?_
    · by_cases cx : x = 114
      · simp [e_law_is_instruction_1, cx, Mod.rfl]
      · simp [e_law_is_instruction_1, cx, Mod.rfl]
    rintro _ h1 ⟨rfl, m1⟩
    simp
    refine run_bind (lc_none (l := rangeW 0 2) rfl (by simp [range_len]) (fun i w h2 hw m => ?_)) ?_
    · obtain ⟨rfl, lt⟩ := range_at hw
      have e : hg h2 (nx h1 0) = _ := m.get hg_new' (fun z => z)
      have c : i = 0 ∨ i = 1 := by omega
      rcases c with rfl | rfl
      · simp [t_law_is_instruction_2, e]
        refine run_bind (c_is_number k10 k11) ?_
        rintro _ _ ⟨rfl, rfl⟩
        simp [Mod.rfl]
      · simp [t_law_is_instruction_2, e]
        refine run_bind (c_is_number k20 k21) ?_
        rintro _ _ ⟨rfl, rfl⟩
        simp [Mod.rfl]
    rintro _ h2 ⟨rfl, m2⟩
    simp
    have ee : eqW (hn (hn h2 (.lst [])) (.lst [])) (.ref (nx h2 0)) (.ref (nx h2 1)) = some true := eqW_lst (ws := []) rfl (by simp) (by simp)
    simp [ee]
    exact q _ _ ⟨rfl, (((Mod.new.trans m1).trans Mod.new).trans m2).trans (Mod.new.trans Mod.new)⟩
  | op s k1 k2 k3 =>
    obtain ⟨ks, ⟨k10, k11⟩, ⟨k20, k21⟩, ⟨k30, k31⟩⟩ := ok
    have cs := fun (h : VH) => c_signs (n := n) (h := h)
    simp [b_law_is_instruction, insW, insL]
    refine run_bind (cs h) ?_
    rintro _ _ ⟨rfl, rfl⟩
    have sg : (signs.map W.str).any (fun y => eqF y (.str s)) = true := by
      simp only [signs, List.mem_cons, List.not_mem_nil, or_false] at ks
      rcases ks with rfl | rfl | rfl | rfl | rfl | rfl | rfl | rfl | rfl | rfl | rfl | rfl <;> simp [signs]
    simp at sg
    simp
    refine run_ite (fun c => ?_) (fun c => ?_)
    · exfalso
      rcases sg with e | e | e | e | e | e | e | e | e | e | e | e <;> simp [← e] at c
    refine run_bind (lc_mapx [114, 114, 114] (fun c => .str (S [c])) (fun c => .int (if c = 114 then 8 else 65536)) rfl (by simp) (fun x h1 hx m => ?_)) ?_
    · by_cases cx : x = 114
      · simp [e_law_is_instruction_1, cx, Mod.rfl]
      · simp [e_law_is_instruction_1, cx, Mod.rfl]
    rintro _ h1 ⟨rfl, m1⟩
    simp
    refine run_bind (lc_none (l := rangeW 0 3) rfl (by simp [range_len]) (fun i w h2 hw m => ?_)) ?_
    · obtain ⟨rfl, lt⟩ := range_at hw
      have e : hg h2 (nx h1 0) = _ := m.get hg_new' (fun z => z)
      have c : i = 0 ∨ i = 1 ∨ i = 2 := by omega
      rcases c with rfl | rfl | rfl
      · simp [t_law_is_instruction_2, e]
        refine run_bind (c_is_number k10 k11) ?_
        rintro _ _ ⟨rfl, rfl⟩
        simp [Mod.rfl]
      · simp [t_law_is_instruction_2, e]
        refine run_bind (c_is_number k20 k21) ?_
        rintro _ _ ⟨rfl, rfl⟩
        simp [Mod.rfl]
      · simp [t_law_is_instruction_2, e]
        refine run_bind (c_is_number k30 k31) ?_
        rintro _ _ ⟨rfl, rfl⟩
        simp [Mod.rfl]
    rintro _ h2 ⟨rfl, m2⟩
    simp
    have ee : eqW (hn (hn h2 (.lst [])) (.lst [])) (.ref (nx h2 0)) (.ref (nx h2 1)) = some true := eqW_lst (ws := []) rfl (by simp) (by simp)
    simp [ee]
    exact q _ _ ⟨rfl, (((Mod.new.trans m1).trans Mod.new).trans m2).trans (Mod.new.trans Mod.new)⟩
  | load k1 k2 k3 =>
    obtain ⟨⟨k10, k11⟩, ⟨k20, k21⟩, ⟨k30, k31⟩⟩ := ok
    simp [b_law_is_instruction, insW, insL]
    refine run_bind (lc_mapx [114, 114, 110] (fun c => .str (S [c])) (fun c => .int (if c = 114 then 8 else 65536)) rfl (by simp) (fun x h1 hx m => ?_)) ?_
    · by_cases cx : x = 114
      · simp [e_law_is_instruction_1, cx, Mod.rfl]
      · simp [e_law_is_instruction_1, cx, Mod.rfl]
    rintro _ h1 ⟨rfl, m1⟩
    simp
    refine run_bind (lc_none (l := rangeW 0 3) rfl (by simp [range_len]) (fun i w h2 hw m => ?_)) ?_
    · obtain ⟨rfl, lt⟩ := range_at hw
      have e : hg h2 (nx h1 0) = _ := m.get hg_new' (fun z => z)
      have c : i = 0 ∨ i = 1 ∨ i = 2 := by omega
      rcases c with rfl | rfl | rfl
      · simp [t_law_is_instruction_2, e]
        refine run_bind (c_is_number k10 k11) ?_
        rintro _ _ ⟨rfl, rfl⟩
        simp [Mod.rfl]
      · simp [t_law_is_instruction_2, e]
        refine run_bind (c_is_number k20 k21) ?_
        rintro _ _ ⟨rfl, rfl⟩
        simp [Mod.rfl]
      · simp [t_law_is_instruction_2, e]
        refine run_bind (c_is_number k30 k31) ?_
        rintro _ _ ⟨rfl, rfl⟩
        simp [Mod.rfl]
    rintro _ h2 ⟨rfl, m2⟩
    simp
    have ee : eqW (hn (hn h2 (.lst [])) (.lst [])) (.ref (nx h2 0)) (.ref (nx h2 1)) = some true := eqW_lst (ws := []) rfl (by simp) (by simp)
    simp [ee]
    exact q _ _ ⟨rfl, (((Mod.new.trans m1).trans Mod.new).trans m2).trans (Mod.new.trans Mod.new)⟩
  | store k1 k2 k3 =>
    obtain ⟨⟨k10, k11⟩, ⟨k20, k21⟩, ⟨k30, k31⟩⟩ := ok
    simp [b_law_is_instruction, insW, insL]
    refine run_bind (lc_mapx [114, 114, 110] (fun c => .str (S [c])) (fun c => .int (if c = 114 then 8 else 65536)) rfl (by simp) (fun x h1 hx m => ?_)) ?_
    · by_cases cx : x = 114
      · simp [e_law_is_instruction_1, cx, Mod.rfl]
      · simp [e_law_is_instruction_1, cx, Mod.rfl]
    rintro _ h1 ⟨rfl, m1⟩
    simp
    refine run_bind (lc_none (l := rangeW 0 3) rfl (by simp [range_len]) (fun i w h2 hw m => ?_)) ?_
    · obtain ⟨rfl, lt⟩ := range_at hw
      have e : hg h2 (nx h1 0) = _ := m.get hg_new' (fun z => z)
      have c : i = 0 ∨ i = 1 ∨ i = 2 := by omega
      rcases c with rfl | rfl | rfl
      · simp [t_law_is_instruction_2, e]
        refine run_bind (c_is_number k10 k11) ?_
        rintro _ _ ⟨rfl, rfl⟩
        simp [Mod.rfl]
      · simp [t_law_is_instruction_2, e]
        refine run_bind (c_is_number k20 k21) ?_
        rintro _ _ ⟨rfl, rfl⟩
        simp [Mod.rfl]
      · simp [t_law_is_instruction_2, e]
        refine run_bind (c_is_number k30 k31) ?_
        rintro _ _ ⟨rfl, rfl⟩
        simp [Mod.rfl]
    rintro _ h2 ⟨rfl, m2⟩
    simp
    have ee : eqW (hn (hn h2 (.lst [])) (.lst [])) (.ref (nx h2 0)) (.ref (nx h2 1)) = some true := eqW_lst (ws := []) rfl (by simp) (by simp)
    simp [ee]
    exact q _ _ ⟨rfl, (((Mod.new.trans m1).trans Mod.new).trans m2).trans (Mod.new.trans Mod.new)⟩
  | go k1 =>
    obtain ⟨k10, k11⟩ := ok
    simp [b_law_is_instruction, insW, insL]
    refine run_bind (lc_mapx [110] (fun c => .str (S [c])) (fun c => .int (if c = 114 then 8 else 65536)) rfl (by simp) (fun x h1 hx m => ?_)) ?_
    · by_cases cx : x = 114
      · simp [e_law_is_instruction_1, cx, Mod.rfl]
      · simp [e_law_is_instruction_1, cx, Mod.rfl]
    rintro _ h1 ⟨rfl, m1⟩
    simp
    refine run_bind (lc_none (l := rangeW 0 1) rfl (by simp [range_len]) (fun i w h2 hw m => ?_)) ?_
    · obtain ⟨rfl, lt⟩ := range_at hw
      have e : hg h2 (nx h1 0) = _ := m.get hg_new' (fun z => z)
      have c : i = 0 := by omega
      rcases c with rfl
      · simp [t_law_is_instruction_2, e]
        refine run_bind (c_is_number k10 k11) ?_
        rintro _ _ ⟨rfl, rfl⟩
        simp [Mod.rfl]
    rintro _ h2 ⟨rfl, m2⟩
    simp
    have ee : eqW (hn (hn h2 (.lst [])) (.lst [])) (.ref (nx h2 0)) (.ref (nx h2 1)) = some true := eqW_lst (ws := []) rfl (by simp) (by simp)
    simp [ee]
    exact q _ _ ⟨rfl, (((Mod.new.trans m1).trans Mod.new).trans m2).trans (Mod.new.trans Mod.new)⟩
  | unl k1 k2 =>
    obtain ⟨⟨k10, k11⟩, ⟨k20, k21⟩⟩ := ok
    simp [b_law_is_instruction, insW, insL]
    refine run_bind (lc_mapx [114, 110] (fun c => .str (S [c])) (fun c => .int (if c = 114 then 8 else 65536)) rfl (by simp) (fun x h1 hx m => ?_)) ?_
    · by_cases cx : x = 114
      · simp [e_law_is_instruction_1, cx, Mod.rfl]
      · simp [e_law_is_instruction_1, cx, Mod.rfl]
    rintro _ h1 ⟨rfl, m1⟩
    simp
    refine run_bind (lc_none (l := rangeW 0 2) rfl (by simp [range_len]) (fun i w h2 hw m => ?_)) ?_
    · obtain ⟨rfl, lt⟩ := range_at hw
      have e : hg h2 (nx h1 0) = _ := m.get hg_new' (fun z => z)
      have c : i = 0 ∨ i = 1 := by omega
      rcases c with rfl | rfl
      · simp [t_law_is_instruction_2, e]
        refine run_bind (c_is_number k10 k11) ?_
        rintro _ _ ⟨rfl, rfl⟩
        simp [Mod.rfl]
      · simp [t_law_is_instruction_2, e]
        refine run_bind (c_is_number k20 k21) ?_
        rintro _ _ ⟨rfl, rfl⟩
        simp [Mod.rfl]
    rintro _ h2 ⟨rfl, m2⟩
    simp
    have ee : eqW (hn (hn h2 (.lst [])) (.lst [])) (.ref (nx h2 0)) (.ref (nx h2 1)) = some true := eqW_lst (ws := []) rfl (by simp) (by simp)
    simp [ee]
    exact q _ _ ⟨rfl, (((Mod.new.trans m1).trans Mod.new).trans m2).trans (Mod.new.trans Mod.new)⟩
  | call k1 k2 =>
    obtain ⟨⟨k10, k11⟩, ⟨k20, k21⟩⟩ := ok
    simp [b_law_is_instruction, insW, insL]
    refine run_bind (lc_mapx [114, 110] (fun c => .str (S [c])) (fun c => .int (if c = 114 then 8 else 65536)) rfl (by simp) (fun x h1 hx m => ?_)) ?_
    · by_cases cx : x = 114
      · simp [e_law_is_instruction_1, cx, Mod.rfl]
      · simp [e_law_is_instruction_1, cx, Mod.rfl]
    rintro _ h1 ⟨rfl, m1⟩
    simp
    refine run_bind (lc_none (l := rangeW 0 2) rfl (by simp [range_len]) (fun i w h2 hw m => ?_)) ?_
    · obtain ⟨rfl, lt⟩ := range_at hw
      have e : hg h2 (nx h1 0) = _ := m.get hg_new' (fun z => z)
      have c : i = 0 ∨ i = 1 := by omega
      rcases c with rfl | rfl
      · simp [t_law_is_instruction_2, e]
        refine run_bind (c_is_number k10 k11) ?_
        rintro _ _ ⟨rfl, rfl⟩
        simp [Mod.rfl]
      · simp [t_law_is_instruction_2, e]
        refine run_bind (c_is_number k20 k21) ?_
        rintro _ _ ⟨rfl, rfl⟩
        simp [Mod.rfl]
    rintro _ h2 ⟨rfl, m2⟩
    simp
    have ee : eqW (hn (hn h2 (.lst [])) (.lst [])) (.ref (nx h2 0)) (.ref (nx h2 1)) = some true := eqW_lst (ws := []) rfl (by simp) (by simp)
    simp [ee]
    exact q _ _ ⟨rfl, (((Mod.new.trans m1).trans Mod.new).trans m2).trans (Mod.new.trans Mod.new)⟩
  | back k1 =>
    obtain ⟨k10, k11⟩ := ok
    simp [b_law_is_instruction, insW, insL]
    refine run_bind (lc_mapx [114] (fun c => .str (S [c])) (fun c => .int (if c = 114 then 8 else 65536)) rfl (by simp) (fun x h1 hx m => ?_)) ?_
    · by_cases cx : x = 114
      · simp [e_law_is_instruction_1, cx, Mod.rfl]
      · simp [e_law_is_instruction_1, cx, Mod.rfl]
    rintro _ h1 ⟨rfl, m1⟩
    simp
    refine run_bind (lc_none (l := rangeW 0 1) rfl (by simp [range_len]) (fun i w h2 hw m => ?_)) ?_
    · obtain ⟨rfl, lt⟩ := range_at hw
      have e : hg h2 (nx h1 0) = _ := m.get hg_new' (fun z => z)
      have c : i = 0 := by omega
      rcases c with rfl
      · simp [t_law_is_instruction_2, e]
        refine run_bind (c_is_number k10 k11) ?_
        rintro _ _ ⟨rfl, rfl⟩
        simp [Mod.rfl]
    rintro _ h2 ⟨rfl, m2⟩
    simp
    have ee : eqW (hn (hn h2 (.lst [])) (.lst [])) (.ref (nx h2 0)) (.ref (nx h2 1)) = some true := eqW_lst (ws := []) rfl (by simp) (by simp)
    simp [ee]
    exact q _ _ ⟨rfl, (((Mod.new.trans m1).trans Mod.new).trans m2).trans (Mod.new.trans Mod.new)⟩
  | send k1 k2 =>
    obtain ⟨⟨k10, k11⟩, ⟨k20, k21⟩⟩ := ok
    simp [b_law_is_instruction, insW, insL]
    refine run_bind (lc_mapx [114, 114] (fun c => .str (S [c])) (fun c => .int (if c = 114 then 8 else 65536)) rfl (by simp) (fun x h1 hx m => ?_)) ?_
    · by_cases cx : x = 114
      · simp [e_law_is_instruction_1, cx, Mod.rfl]
      · simp [e_law_is_instruction_1, cx, Mod.rfl]
    rintro _ h1 ⟨rfl, m1⟩
    simp
    refine run_bind (lc_none (l := rangeW 0 2) rfl (by simp [range_len]) (fun i w h2 hw m => ?_)) ?_
    · obtain ⟨rfl, lt⟩ := range_at hw
      have e : hg h2 (nx h1 0) = _ := m.get hg_new' (fun z => z)
      have c : i = 0 ∨ i = 1 := by omega
      rcases c with rfl | rfl
      · simp [t_law_is_instruction_2, e]
        refine run_bind (c_is_number k10 k11) ?_
        rintro _ _ ⟨rfl, rfl⟩
        simp [Mod.rfl]
      · simp [t_law_is_instruction_2, e]
        refine run_bind (c_is_number k20 k21) ?_
        rintro _ _ ⟨rfl, rfl⟩
        simp [Mod.rfl]
    rintro _ h2 ⟨rfl, m2⟩
    simp
    have ee : eqW (hn (hn h2 (.lst [])) (.lst [])) (.ref (nx h2 0)) (.ref (nx h2 1)) = some true := eqW_lst (ws := []) rfl (by simp) (by simp)
    simp [ee]
    exact q _ _ ⟨rfl, (((Mod.new.trans m1).trans Mod.new).trans m2).trans (Mod.new.trans Mod.new)⟩
  | ask k1 k2 =>
    obtain ⟨⟨k10, k11⟩, ⟨k20, k21⟩⟩ := ok
    simp [b_law_is_instruction, insW, insL]
    refine run_bind (lc_mapx [114, 114] (fun c => .str (S [c])) (fun c => .int (if c = 114 then 8 else 65536)) rfl (by simp) (fun x h1 hx m => ?_)) ?_
    · by_cases cx : x = 114
      · simp [e_law_is_instruction_1, cx, Mod.rfl]
      · simp [e_law_is_instruction_1, cx, Mod.rfl]
    rintro _ h1 ⟨rfl, m1⟩
    simp
    refine run_bind (lc_none (l := rangeW 0 2) rfl (by simp [range_len]) (fun i w h2 hw m => ?_)) ?_
    · obtain ⟨rfl, lt⟩ := range_at hw
      have e : hg h2 (nx h1 0) = _ := m.get hg_new' (fun z => z)
      have c : i = 0 ∨ i = 1 := by omega
      rcases c with rfl | rfl
      · simp [t_law_is_instruction_2, e]
        refine run_bind (c_is_number k10 k11) ?_
        rintro _ _ ⟨rfl, rfl⟩
        simp [Mod.rfl]
      · simp [t_law_is_instruction_2, e]
        refine run_bind (c_is_number k20 k21) ?_
        rintro _ _ ⟨rfl, rfl⟩
        simp [Mod.rfl]
    rintro _ h2 ⟨rfl, m2⟩
    simp
    have ee : eqW (hn (hn h2 (.lst [])) (.lst [])) (.ref (nx h2 0)) (.ref (nx h2 1)) = some true := eqW_lst (ws := []) rfl (by simp) (by simp)
    simp [ee]
    exact q _ _ ⟨rfl, (((Mod.new.trans m1).trans Mod.new).trans m2).trans (Mod.new.trans Mod.new)⟩
  | take k1 k2 =>
    obtain ⟨⟨k10, k11⟩, ⟨k20, k21⟩⟩ := ok
    simp [b_law_is_instruction, insW, insL]
    refine run_bind (lc_mapx [114, 114] (fun c => .str (S [c])) (fun c => .int (if c = 114 then 8 else 65536)) rfl (by simp) (fun x h1 hx m => ?_)) ?_
    · by_cases cx : x = 114
      · simp [e_law_is_instruction_1, cx, Mod.rfl]
      · simp [e_law_is_instruction_1, cx, Mod.rfl]
    rintro _ h1 ⟨rfl, m1⟩
    simp
    refine run_bind (lc_none (l := rangeW 0 2) rfl (by simp [range_len]) (fun i w h2 hw m => ?_)) ?_
    · obtain ⟨rfl, lt⟩ := range_at hw
      have e : hg h2 (nx h1 0) = _ := m.get hg_new' (fun z => z)
      have c : i = 0 ∨ i = 1 := by omega
      rcases c with rfl | rfl
      · simp [t_law_is_instruction_2, e]
        refine run_bind (c_is_number k10 k11) ?_
        rintro _ _ ⟨rfl, rfl⟩
        simp [Mod.rfl]
      · simp [t_law_is_instruction_2, e]
        refine run_bind (c_is_number k20 k21) ?_
        rintro _ _ ⟨rfl, rfl⟩
        simp [Mod.rfl]
    rintro _ h2 ⟨rfl, m2⟩
    simp
    have ee : eqW (hn (hn h2 (.lst [])) (.lst [])) (.ref (nx h2 0)) (.ref (nx h2 1)) = some true := eqW_lst (ws := []) rfl (by simp) (by simp)
    simp [ee]
    exact q _ _ ⟨rfl, (((Mod.new.trans m1).trans Mod.new).trans m2).trans (Mod.new.trans Mod.new)⟩
  | time k1 =>
    obtain ⟨k10, k11⟩ := ok
    simp [b_law_is_instruction, insW, insL]
    refine run_bind (lc_mapx [114] (fun c => .str (S [c])) (fun c => .int (if c = 114 then 8 else 65536)) rfl (by simp) (fun x h1 hx m => ?_)) ?_
    · by_cases cx : x = 114
      · simp [e_law_is_instruction_1, cx, Mod.rfl]
      · simp [e_law_is_instruction_1, cx, Mod.rfl]
    rintro _ h1 ⟨rfl, m1⟩
    simp
    refine run_bind (lc_none (l := rangeW 0 1) rfl (by simp [range_len]) (fun i w h2 hw m => ?_)) ?_
    · obtain ⟨rfl, lt⟩ := range_at hw
      have e : hg h2 (nx h1 0) = _ := m.get hg_new' (fun z => z)
      have c : i = 0 := by omega
      rcases c with rfl
      · simp [t_law_is_instruction_2, e]
        refine run_bind (c_is_number k10 k11) ?_
        rintro _ _ ⟨rfl, rfl⟩
        simp [Mod.rfl]
    rintro _ h2 ⟨rfl, m2⟩
    simp
    have ee : eqW (hn (hn h2 (.lst [])) (.lst [])) (.ref (nx h2 0)) (.ref (nx h2 1)) = some true := eqW_lst (ws := []) rfl (by simp) (by simp)
    simp [ee]
    exact q _ _ ⟨rfl, (((Mod.new.trans m1).trans Mod.new).trans m2).trans (Mod.new.trans Mod.new)⟩
  | rest =>
    simp [b_law_is_instruction, insW, insL]
    refine run_bind (lc_mapx [] (fun c => .str (S [c])) (fun c => .int (if c = 114 then 8 else 65536)) rfl (by simp) (fun x h1 hx m => ?_)) ?_
    · by_cases cx : x = 114
      · simp [e_law_is_instruction_1, cx, Mod.rfl]
      · simp [e_law_is_instruction_1, cx, Mod.rfl]
    rintro _ h1 ⟨rfl, m1⟩
    simp
    refine run_bind (lc_none (l := rangeW 0 0) rfl (by simp [range_len]) (fun i w h2 hw m => ?_)) ?_
    · obtain ⟨rfl, lt⟩ := range_at hw
      exact absurd lt (by omega)
    rintro _ h2 ⟨rfl, m2⟩
    simp
    have ee : eqW (hn (hn h2 (.lst [])) (.lst [])) (.ref (nx h2 0)) (.ref (nx h2 1)) = some true := eqW_lst (ws := []) rfl (by simp) (by simp)
    simp [ee]
    exact q _ _ ⟨rfl, (((Mod.new.trans m1).trans Mod.new).trans m2).trans (Mod.new.trans Mod.new)⟩
end Nw

set_option Elab.async false
set_option linter.all false
set_option maxRecDepth 100000
set_option maxHeartbeats 4000000
/-! The laws' own look at a guest; words drawn; deeds. -/
namespace Nw
open PySem PySem.Spec PyProof.Rows L2
theorem eqW_nil {h : VH} {a b : Nat} (ha : hg h a = some (.lst [])) (hb : hg h b = some (.lst [])) : eqW h (.ref a) (.ref b) = some true := eqW_lst (ws := []) rfl ha hb
theorem c_is_guest {n : Nat} {h : VH} {code : List Ins} {first : List Int} (ok : GOk code first) : Run (prg.call (n + 3) f_law_is_guest [guestW code first] h) fun r h' => r = .bl true ∧ Mod no h h' := by
  refine run_q fun Q q => ?_
  rw [u_law_is_guest]
  have l1 := ok.len
  have l2 := ok.size
  have l3 := ok.pos
  have b1 : (1 : Int) ≤ (code.length : Int) := by omega
  have b2 : (code.length : Int) ≤ 30000 := by omega
  simp [b_law_is_guest, guestW, b1, b2]
  refine run_bind (c_is_number (v := (first.length : Int)) (most := 1001) (by omega) (by omega)) ?_
  rintro _ _ ⟨rfl, rfl⟩
  simp
  refine run_bind (lc_none (l := first.map W.int) rfl (by simp; omega) (fun i w h2 hw m => ?_)) ?_
  · rw [List.getElem?_map] at hw
    cases hx : first[i]? with
    | none => rw [hx] at hw; cases hw
    | some v =>
      rw [hx] at hw
      cases hw
      have := ok.firstW v (List.mem_of_getElem? hx)
      simp [t_law_is_guest_1]
      refine run_bind (c_is_number this.1 this.2) ?_
      rintro _ _ ⟨rfl, rfl⟩
      simp [Mod.rfl]
  rintro _ h1 ⟨rfl, m1⟩
  have e1 : eqW (hn (hn h1 (.lst [])) (.lst [])) (.ref (nx h1 0)) (.ref (nx h1 1)) = some true := eqW_nil (by simp) (by simp)
  simp [e1]
  refine run_bind (lc_none (l := code.map insW) rfl (by simp; omega) (fun i w h2 hw m => ?_)) ?_
  · rw [List.getElem?_map] at hw
    cases hx : code[i]? with
    | none => rw [hx] at hw; cases hw
    | some v =>
      rw [hx] at hw
      cases hw
      simp [t_law_is_guest_2]
      refine run_bind (c_is_instruction (ok.ins v (List.mem_of_getElem? hx))) ?_
      rintro _ _ ⟨rfl, m⟩
      simp [m]
  rintro _ h2 ⟨rfl, m2⟩
  have e2 : eqW (hn (hn h2 (.lst [])) (.lst [])) (.ref (nx h2 0)) (.ref (nx h2 1)) = some true := eqW_nil (by simp) (by simp)
  simp [e2]
  exact q _ _ ⟨rfl, ((m1.trans (Mod.new.trans Mod.new)).trans m2).trans (Mod.new.trans Mod.new)⟩
/-! ### words -/
theorem Drawn.mod {h : VH} {w d : Nat} {p : Int → Prop} {a : W} {h' : VH} (z : Drawn h w d p a h') : Mod (· = w) h h' := by obtain ⟨_, _, _, _, m⟩ := z; exact m
theorem c_pick {n : Nat} {h : VH} {w d r : Nat} {ws : List W} (a : WOk h w d) (hr : hg h r = some (.lst ws)) (hne : ws ≠ []) (hw : r ≠ w) :
    Run (prg.call (n + 2) f_law_pick [.ref w, .ref r] h) fun x h' => x ∈ ws ∧ WOk h' w d ∧ Mod (· = w) h h' := by
  refine run_q fun Q q => ?_
  rw [u_law_pick]
  have l : 0 < ws.length := List.length_pos_iff.mpr hne
  simp [b_law_pick, hr]
  refine run_bind (c_next a (by omega)) ?_
  rintro _ h1 ⟨v, rfl, ⟨v0, v1⟩, a1, m1⟩
  have hr1 : hg h1 r = some (.lst ws) := m1.get hr hw
  have e : atW ws v = some ws[v.toNat] := by rw [atW_pos v0, List.getElem?_eq_getElem (by omega)]
  simp [hr1, e]
  exact q _ _ ⟨List.getElem_mem _, a1, m1⟩
theorem c_pickT {n : Nat} {h : VH} {w d : Nat} {ws : List W} (a : WOk h w d) (hne : ws ≠ []) :
    Run (prg.call (n + 2) f_law_pick [.ref w, .tup ws] h) fun x h' => x ∈ ws ∧ WOk h' w d ∧ Mod (· = w) h h' := by
  refine run_q fun Q q => ?_
  rw [u_law_pick]
  have l : 0 < ws.length := List.length_pos_iff.mpr hne
  simp [b_law_pick]
  refine run_bind (c_next a (by omega)) ?_
  rintro _ h1 ⟨v, rfl, ⟨v0, v1⟩, a1, m1⟩
  have e : atW ws v = some ws[v.toNat] := by rw [atW_pos v0, List.getElem?_eq_getElem (by omega)]
  simp [e]
  exact q _ _ ⟨List.getElem_mem _, a1, m1⟩
theorem WOk.lt {h : VH} {w d : Nat} (a : WOk h w d) : w < h.length ∧ d < h.length := by
  obtain ⟨_, _, h1, h2, _⟩ := a
  exact ⟨lt_of_get h1, lt_of_get h2⟩
theorem c_word {n : Nat} {h : VH} {w d : Nat} (a : WOk h w d) : Run (prg.call (n + 3) f_law_word [.ref w] h) (Drawn h w d isW) := by
  refine run_q fun Q q => ?_
  have nxt := fun {h : VH} {many : Int} (a : WOk h w d) (hm : 0 < many) => c_next (n := n + 1) a hm
  rw [u_law_word]
  simp [b_law_word]
  refine run_bind (nxt a (by omega)) ?_
  rintro _ h1 ⟨t, rfl, ⟨t0, t1⟩, a1, m1⟩
  simp
  refine run_ite (fun c => ?_) (fun c => ?_)
  · refine run_bind (nxt a1 (by omega)) ?_
    rintro _ h2 ⟨v, rfl, ⟨v0, v1⟩, a2, m2⟩
    simp
    exact q _ _ ⟨v, rfl, ⟨by omega, by omega⟩, a2, m1.trans m2⟩
  refine run_ite (fun c => ?_) (fun c => ?_)
  · have hw : nx h1 0 ≠ w := by have := a1.lt.1; unfold nx; omega
    refine run_bind (c_pick (n := n) (r := nx h1 0) a1.new hg_new' (by simp) hw) ?_
    rintro _ h2 ⟨hx, a2, m2⟩
    simp at hx
    have m := m1.trans (Mod.new.trans m2)
    rcases hx with rfl | rfl | rfl | rfl | rfl | rfl | rfl | rfl <;> (simp; exact q _ _ ⟨_, rfl, ⟨by omega, by omega⟩, a2, m⟩)
  refine run_ite (fun c => ?_) (fun c => ?_)
  · refine run_bind (nxt a1 (by omega)) ?_
    rintro _ h2 ⟨v, rfl, ⟨v0, v1⟩, a2, m2⟩
    simp
    exact q _ _ ⟨_, rfl, ⟨by omega, by omega⟩, a2, m1.trans m2⟩
  refine run_ite (fun c => ?_) (fun c => ?_)
  · refine run_bind (nxt a1 (by omega)) ?_
    rintro _ h2 ⟨v, rfl, ⟨v0, v1⟩, a2, m2⟩
    simp
    exact q _ _ ⟨v, rfl, ⟨by omega, by omega⟩, a2, m1.trans m2⟩
  refine run_bind (nxt a1 (by omega)) ?_
  rintro _ h2 ⟨v, rfl, ⟨v0, v1⟩, a2, m2⟩
  simp
  refine run_bind (nxt a2 (by omega)) ?_
  rintro _ h3 ⟨u, rfl, ⟨u0, u1⟩, a3, m3⟩
  simp
  refine run_bind (nxt a3 (by omega)) ?_
  rintro _ h4 ⟨y, rfl, ⟨y0, y1⟩, a4, m4⟩
  simp
  exact q _ _ ⟨_, rfl, ⟨by omega, by omega⟩, a4, ((m1.trans m2).trans m3).trans m4⟩
end Nw

set_option Elab.async false
set_option linter.all false
set_option maxRecDepth 100000
set_option maxHeartbeats 4000000
/-! The laws' own machine: what was met; deeds. -/
namespace Nw
open PySem PySem.Spec PyProof.Rows L2
@[simp] theorem x_forF2 (C : Cfg) (i j : Nat) (b : List Sm) (a c : W) (env : Env) (h : VH) : forF C (.tp [.nm i, .nm j]) b (.tup [a, c]) env h = evSs C b (setv (setv env i a) j c) h := (rfl)
def MetOk (g : MG) (M : MS) : Prop := ∀ w ∈ M.met, ∃ (a : Nat) (p : Int), w = .tup [.int a, .int p] ∧ a < g.code.length
theorem met_step (g : MG) (M : MS) (i : Ins) : (step g M i).met = M.met ∨ ∃ p : Int, (step g M i).met = M.met ++ [.tup [.int M.at_, .int p]] := by
  have e : M.at_ + 1 - 1 = M.at_ := by omega
  cases i <;> simp only [step, stepI] <;> (try split) <;> first | exact .inl trivial | exact .inl rfl | exact .inr ⟨_, by rw [e]⟩
theorem MetOk.turn {g : MG} {M : MS} (a : MetOk g M) (a0 : 0 ≤ M.at_) (l : M.at_ < g.code.length) : MetOk g (turn g M) := by
  have nat : ∃ k : Nat, M.at_ = k ∧ k < g.code.length := ⟨M.at_.toNat, by omega, by omega⟩
  obtain ⟨k, ek, lk⟩ := nat
  have e1 : ∀ w ∈ (met1 M).met, ∃ (a : Nat) (p : Int), w = .tup [.int a, .int p] ∧ a < g.code.length := fun w hw => by
    rcases List.mem_append.mp hw with z | z
    · exact a w z
    · simp at z; subst z; exact ⟨k, -1, by rw [ek], lk⟩
  intro w hw
  have hw : w ∈ (step g (met1 M) _).met := hw
  rcases met_step g (met1 M) ((g.code[M.at_.toNat]?).getD .rest) with z | ⟨p, z⟩
  · rw [z] at hw; exact e1 w hw
  · rw [z] at hw
    rcases List.mem_append.mp hw with y | y
    · exact e1 w y
    · simp at y; subst y; exact ⟨k, p, by show W.tup [.int M.at_, _] = _; rw [ek], lk⟩
theorem over_met (g : MG) (M : MS) : (over g M).met = M.met := by unfold over; split <;> rfl
theorem ran_met {g : MG} (ok : ∀ i ∈ g.code, InsOk i) (ha : ∀ x ∈ g.ans, Nw.isW x) (l2 : g.code.length ≤ 30000) : ∀ (n b : Nat) (M : MS), MW g b M → MetOk g M → MetOk g (ran g n M) ∧ ∃ l, (ran g n M).met = M.met ++ l
  | 0, b, M, w, a => ⟨a, [], by simp [ran]⟩
  | n + 1, b, M, w, a => by
    unfold ran
    have ao : MetOk g (over g M) := fun w hw => a w (by rw [over_met] at hw; exact hw)
    split
    · rename_i c
      have at1 : (over g M).at_ < g.code.length := by
        unfold over at c ⊢
        split
        · rename_i z; rw [if_pos z] at c; simp at c
        · rename_i z
          rw [if_neg z] at c
          have : ¬ ((g.code.length : Int) ≤ M.at_) := fun y => z ⟨c, y⟩
          show M.at_ < _
          omega
      have wo := w.over
      obtain ⟨q1, l, q2⟩ := ran_met ok ha l2 n (b + 2) (turn g (over g M)) (wo.turn ok ha at1 l2) (ao.turn wo.at0 at1)
      refine ⟨q1, ?_⟩
      have e : ∃ l1, (turn g (over g M)).met = M.met ++ l1 := by
        have e1 : (met1 (over g M)).met = M.met ++ [.tup [.int (over g M).at_, .int (-1)]] := by show (over g M).met ++ _ = _; rw [over_met]
        rcases met_step g (met1 (over g M)) ((g.code[(over g M).at_.toNat]?).getD .rest) with z | ⟨p, z⟩
        · exact ⟨_, by show (step g _ _).met = _; rw [z, e1]⟩
        · exact ⟨_, by show (step g _ _).met = _; rw [z, e1, List.append_assoc]⟩
      obtain ⟨l1, e⟩ := e
      exact ⟨l1 ++ l, by rw [q2, e, List.append_assoc]⟩
    · exact ⟨ao, [], by rw [over_met]; simp⟩
abbrev quietS : List Str := [(S [108, 111, 97, 100]), (S [115, 116, 111, 114, 101]), (S [115, 101, 116]), (S [104, 105, 103, 104]), (S [111, 112]), (S [103, 111]), (S [117, 110, 108, 101, 115, 115]), (S [99, 97, 108, 108]), (S [98, 97, 99, 107]), (S [101, 110, 100])]
/-- the kind that stands at a -/
def kindAt (code : List Ins) (a : Nat) : Str := kindS (code[a]?.getD .rest)
def deed1 (code : List Ins) : W → Option W
  | .tup [.int a, .int p] => if 0 ≤ p then some (.tup [.str (kindAt code a.toNat), .int p]) else if kindAt code a.toNat ∈ quietS then none else some (.tup [.str (kindAt code a.toNat)])
  | _ => none
def deedsOf (code : List Ins) (met : List W) : List W := met.filterMap (deed1 code)
theorem c_deeds {n : Nat} {h : VH} {g : MG} {m rm rr rd rt : Nat} {M : MS} {first : List Int} (a : MR h g m rm rr rd rt M) (mo : MetOk g M) (l : M.met.length < 1000000) :
    Run (prg.call (n + 1) f_law_deeds [guestW g.code first, .ref m] h) fun x h' => ∃ r, x = .ref r ∧ hg h' r = some (.lst (deedsOf g.code M.met)) ∧ h.length ≤ r ∧ Mod no h h' := by
  refine run_q fun Q q => ?_
  rw [u_law_deeds]
  have h1 := a.hm
  have h5 := a.hrt
  simp [b_law_deeds, h1, z_itl (hn h (.lst [])) (r := rt) (x := M.met) (by simp [h5])]
  refine run_bind (for_all M.met (fun i env h' => env 0 = some (guestW g.code first) ∧ env 2 = some (.ref (nx h 0)) ∧ hg h' (nx h 0) = some (.lst (deedsOf g.code (M.met.take i))) ∧ hg h' rt = some (.lst M.met) ∧ Mod no h h')
    ⟨by simp, by simp, by simp [deedsOf], by simp [h5], Mod.new⟩ (fun i env h' z => z_itl' z.2.2.2.1) ?_) ?_
  · rintro i w env h' hw ⟨e0, e2, e3, e4, e5⟩
    obtain ⟨k, p, rfl, lk⟩ := mo w (List.mem_of_getElem? hw)
    obtain ⟨t, ht⟩ := insL_head g.code[k]
    have ei : atW (g.code.map insW) (k : Int) = some (.tup (.str (kindS g.code[k]) :: t)) := by
      rw [atW_nat, List.getElem?_map, List.getElem?_eq_getElem lk]
      show some (W.tup (insL g.code[k])) = _
      rw [ht]
    have ek : kindAt g.code k = kindS g.code[k] := by unfold kindAt; rw [List.getElem?_eq_getElem lk]; rfl
    have et : deedsOf g.code (M.met.take (i + 1)) = deedsOf g.code (M.met.take i) ++ (deed1 g.code (.tup [.int k, .int p])).toList := filterMap_take hw
    have ll : (deedsOf g.code (M.met.take i)).length < 16777216 := by
      have := List.length_filterMap_le (deed1 g.code) (M.met.take i)
      have h2 := List.length_take_le i M.met
      have h3 : (M.met.take i).length ≤ M.met.length := by simp; omega
      unfold deedsOf; omega
    have ne : nx h 0 ≠ rt := by have := lt_of_get h5; unfold nx; omega
    refine run_q fun Q q => ?_
    simp [l_law_deeds_1, e0, guestW, ei]
    refine run_ite (fun c => ?_) (fun c => ?_)
    · simp [e2, e3, ll]
      refine q _ _ ⟨rfl, by simp [e0, guestW], by simp [e2], ?_, by simp [ne, e4], mod_push e5 (nx_le (Nat.le_refl _) 0)⟩
      rw [et]
      simp [deed1, c, ek, e3]
    · refine run_ite (fun c2 => ?_) (fun c2 => ?_)
      · have nq : ¬ kindS g.code[k] ∈ quietS := by simpa [quietS, @eq_comm _ (kindS g.code[k])] using c2
        simp [e2, e3, ll]
        refine q _ _ ⟨rfl, by simp [e0, guestW], by simp [e2], ?_, by simp [ne, e4], mod_push e5 (nx_le (Nat.le_refl _) 0)⟩
        rw [et]
        simp only [deed1, if_neg c, Int.toNat_natCast, ek, if_neg nq]
        simp [e3]
      · have nq : kindS g.code[k] ∈ quietS := by
          simp only [quietS, List.mem_cons, List.not_mem_nil, or_false, @eq_comm _ (kindS g.code[k])]
          exact Classical.byContradiction fun z => c2 (by simpa only [not_or] using z)
        simp
        refine q _ _ ⟨rfl, by simp [e0, guestW], by simp [e2], ?_, e4, e5⟩
        rw [et]
        simp only [deed1, if_neg c, Int.toNat_natCast, ek, if_pos nq]
        simp [e3]
  rintro ⟨_, env⟩ h2 ⟨rfl, z0, z2, z3, z4, z5⟩
  dsimp only at z2
  rw [List.take_length] at z3
  simp [z2]
  exact q _ _ ⟨_, rfl, z3, nx_le (Nat.le_refl _) 0, z5⟩
end Nw

set_option Elab.async false
set_option linter.all false
set_option maxRecDepth 100000
set_option maxHeartbeats 4000000
/-! The laws' own machine: the whole run's facts. -/
namespace Nw
open PySem PySem.Spec PyProof.Rows L2
theorem M0_w {code : List Ins} {first ans : List Int} (ok : GOk code first) : MW (gOf code ans) 0 (M0 code first) := by
  have z : isW 0 := ⟨by decide, by decide⟩
  refine ⟨by simp [M0], fun x hx => ?_, fun x hx => ?_, Nat.zero_le _, Nat.zero_le _, Nat.zero_le _, Int.le_refl 0⟩
  · simp only [M0, List.mem_replicate] at hx; rw [hx.2]; exact z
  · simp only [M0, memOf, memA, List.mem_append, List.mem_replicate, List.mem_map] at hx
    rcases hx with ((⟨i, hi, rfl⟩ | hx) | hx) | hx
    · exact codeN_w (ok.ins i hi)
    · rw [hx.2]; exact z
    · exact ok.firstW x hx
    · rw [hx.2]; exact z
theorem ranS_met (g : MG) (n : Nat) (M : MS) : (ranS g n M).met = (ran g n M).met := by unfold ranS; split <;> rfl
theorem ranS_deeds (g : MG) (n : Nat) (M : MS) : (ranS g n M).deeds = (ran g n M).deeds := by unfold ranS; split <;> rfl
theorem ranS_regs (g : MG) (n : Nat) (M : MS) : (ranS g n M).regs = (ran g n M).regs := by unfold ranS; split <;> rfl
theorem ranS_ok {code : List Ins} {first ans : List Int} (ok : GOk code first) (ha : ∀ x ∈ ans, isW x) (n : Nat) : MetOk (gOf code ans) (ranS (gOf code ans) n (M0 code first)) := by
  intro w hw
  rw [ranS_met] at hw
  exact (ran_met (g := gOf code ans) ok.ins ha ok.len n 0 (M0 code first) (M0_w ok) (fun w hw => by simp [M0] at hw)).1 w hw
theorem ran_prefix (g : MG) : ∀ (n : Nat) (M : MS), ∃ l, (ran g n M).met = M.met ++ l
  | 0, M => ⟨[], by simp [ran]⟩
  | n + 1, M => by
    unfold ran
    split
    · obtain ⟨l, q2⟩ := ran_prefix g n (turn g (over g M))
      have e : ∃ l1, (turn g (over g M)).met = M.met ++ l1 := by
        have e1 : (met1 (over g M)).met = M.met ++ [.tup [.int (over g M).at_, .int (-1)]] := by show (over g M).met ++ _ = _; rw [over_met]
        rcases met_step g (met1 (over g M)) ((g.code[(over g M).at_.toNat]?).getD .rest) with z | ⟨p, z⟩
        · exact ⟨_, by show (step g _ _).met = _; rw [z, e1]⟩
        · exact ⟨_, by show (step g _ _).met = _; rw [z, e1, List.append_assoc]⟩
      obtain ⟨l1, e⟩ := e
      exact ⟨l1 ++ l, by rw [q2, e, List.append_assoc]⟩
    · exact ⟨[], by rw [over_met]; simp⟩
/-- it stands at j, all is well -/
structure St (L : Nat) (j : Nat) (M : MS) : Prop where
  at_ : M.at_ = j
  word : M.word = (S [])
  len : M.regs.length = 8
  r0 : gI M.regs 0 = 0
  mem : M.mem.length = L
theorem St.ran1 {g : MG} {L j n : Nat} {M : MS} (s : St L j M) (lj : j < g.code.length) : ran g (n + 1) M = ran g n (turn g M) := by
  have e : over g M = M := if_neg (fun z => by have := z.2; rw [s.at_] at this; omega)
  show (if (over g M).word = (S []) then ran g n (turn g (over g M)) else over g M) = _
  rw [e, if_pos s.word]
theorem gI_set0 {l : List Int} (h : 0 < l.length) : gI (l.set 0 0) 0 = 0 := by
  unfold gI
  simp [h]
theorem M0_st {code : List Ins} {first : List Int} : St (memOf code first).length 0 (M0 code first) := ⟨rfl, rfl, by simp [M0], by simp [M0, gI], rfl⟩
theorem memOf_len {code : List Ins} {first : List Int} : up16 code.length + first.length ≤ (memOf code first).length := by
  have := (up16_le code.length).2
  simp [memOf, memA]
  omega
theorem turn_at {g : MG} {L j : Nat} {M : MS} {i : Ins} (s : St L j M) (hi : g.code[j]? = some i) : turn g M = { step g (met1 M) i with done := (step g (met1 M) i).done + 1 } := by
  unfold turn
  rw [s.at_, Int.toNat_natCast, hi]
  rfl
abbrev mt (a p : Int) : W := .tup [.int a, .int p]
theorem turn_load {g : MG} {L j : Nat} {M : MS} {r n : Int} (s : St L j M) (hi : g.code[j]? = some (.load r 0 n)) (n0 : 0 ≤ n) (n1 : n < L) (n2 : n < 65536) :
    St L (j + 1) (turn g M) ∧ (turn g M).met = M.met ++ [mt j (-1), mt j n] ∧ (turn g M).deeds = M.deeds := by
  rw [turn_at s hi]
  have ep : (gI M.regs 0 + n) % 4294967296 = n := by rw [s.r0]; omega
  have c : ¬ (((met1 M).mem.length : Nat) : Int) ≤ n := by show ¬ ((M.mem.length : Nat) : Int) ≤ n; rw [s.mem]; omega
  have ep' : (gI (met1 M).regs 0 + n) % 4294967296 = n := ep
  simp only [step, stepI, ep', if_neg c]
  refine ⟨⟨by show M.at_ + 1 = _; rw [s.at_]; omega, s.word, by simp [met1, s.len], gI_set0 (by simp [met1, s.len]), s.mem⟩, ?_, rfl⟩
  show (M.met ++ [mt M.at_ (-1)]) ++ [mt (M.at_ + 1 - 1) n] = _
  rw [s.at_, Int.add_sub_cancel, List.append_assoc]
  rfl
theorem turn_rest {g : MG} {L j : Nat} {M : MS} (s : St L j M) (hi : g.code[j]? = some .rest) :
    St L (j + 1) (turn g M) ∧ (turn g M).met = M.met ++ [mt j (-1)] ∧ (turn g M).deeds = M.deeds ++ [.tup [.str (S [114, 101, 115, 116])]] := by
  rw [turn_at s hi]
  simp only [step, stepI]
  refine ⟨⟨by show M.at_ + 1 = _; rw [s.at_]; omega, s.word, by simp [met1, s.len], gI_set0 (by simp [met1, s.len]), s.mem⟩, ?_, rfl⟩
  show M.met ++ [mt M.at_ (-1)] = _
  rw [s.at_]
theorem turn_go {g : MG} {L j k : Nat} {M : MS} (s : St L j M) (hi : g.code[j]? = some (.go k)) :
    St L k (turn g M) ∧ (turn g M).met = M.met ++ [mt j (-1)] ∧ (turn g M).deeds = M.deeds := by
  rw [turn_at s hi]
  simp only [step, stepI]
  refine ⟨⟨rfl, s.word, by simp [met1, s.len], gI_set0 (by simp [met1, s.len]), s.mem⟩, ?_, rfl⟩
  show M.met ++ [mt M.at_ (-1)] = _
  rw [s.at_]
end Nw

set_option Elab.async false
set_option linter.all false
set_option maxRecDepth 100000
set_option maxHeartbeats 4000000
/-! k77: the caller. -/
namespace Nw
open PySem PySem.Spec PyProof.Rows L2
@[simp] theorem gl_PAGE : prg.glob (S [80, 65, 71, 69]) = some (.int 16) := by simp [prg, globs]
@[simp] theorem gl_LOADED : prg.glob (S [76, 79, 65, 68, 69, 68]) = some (.int 2) := by simp [prg, globs]
@[simp] theorem gl_FIRST : prg.glob (S [70, 73, 82, 83, 84]) = some (.int 3) := by simp [prg, globs]
@[simp] theorem gl_SECOND : prg.glob (S [83, 69, 67, 79, 78, 68]) = some (.int 4) := by simp [prg, globs]
theorem c_data_base {n : Nat} {h : VH} {many : Nat} : Run (prg.call (n + 1) f_data_base [.int many] h) fun r h' => r = .int (up16 many : Nat) ∧ h' = h := by
  refine run_q fun Q q => ?_
  rw [u_data_base]
  simp [b_data_base]
  exact q _ _ ⟨congrArg W.int (by unfold up16; omega), rfl⟩
section
variable (many stride : Nat)
def cBase : Nat := up16 (many + 2)
def cCode : List Ins := (List.range many).map (fun (k : Nat) => Ins.load 2 0 ((cBase many : Nat) + (k : Int) * stride)) ++ [.rest, .go 0]
def cFirst : List Int := List.replicate (many * stride + 1) 0
theorem cCode_len : (cCode many stride).length = many + 2 := by simp [cCode]
theorem cCode_at {j : Nat} (h : j < many) : (cCode many stride)[j]? = some (.load 2 0 ((cBase many : Nat) + (j : Int) * stride)) := by
  unfold cCode
  rw [List.getElem?_append_left (by simpa using h), List.getElem?_map, List.getElem?_range h]
  rfl
theorem cCode_rest : (cCode many stride)[many]? = some .rest := by
  unfold cCode
  rw [List.getElem?_append_right (by simp)]
  simp
theorem cCode_go : (cCode many stride)[many + 1]? = some (.go 0) := by
  unfold cCode
  rw [List.getElem?_append_right (by simp)]
  simp
variable {many stride} (h1 : 1 ≤ many) (h2 : many ≤ 40) (h3 : 1 ≤ stride) (h4 : many * stride ≤ 999)
include h1 h2 h3 h4
theorem cPlace {k : Nat} (h : k < many) : 0 ≤ ((cBase many : Nat) : Int) + (k : Int) * stride ∧ (((cBase many : Nat) : Int) + (k : Int) * stride < cBase many + (many * stride : Nat)) ∧ ((cBase many : Nat) : Int) + (k : Int) * stride < 65536 := by
  have e : ((k : Int) * stride) = ((k * stride : Nat) : Int) := by push_cast; rfl
  have l : k * stride + stride ≤ many * stride := by
    have := Nat.mul_le_mul_right stride (show k + 1 ≤ many from h)
    rwa [Nat.succ_mul] at this
  have u := up16_le (many + 2)
  unfold cBase
  rw [e]
  omega
theorem cOk : GOk (cCode many stride) (cFirst many stride) := by
  refine ⟨fun i hi => ?_, by rw [cCode_len]; omega, by rw [cCode_len]; omega, by simp [cFirst]; omega, fun x hx => ?_⟩
  · simp only [cCode, List.mem_append, List.mem_map, List.mem_range, List.mem_cons, List.not_mem_nil, or_false] at hi
    rcases hi with ⟨k, hk, rfl⟩ | rfl | rfl
    · have := cPlace h1 h2 h3 h4 hk
      exact ⟨⟨by omega, by omega⟩, ⟨by omega, by omega⟩, this.1, this.2.2⟩
    · trivial
    · exact ⟨by omega, by omega⟩
  · simp only [cFirst, List.mem_replicate] at hx
    rw [hx.2]; exact ⟨by omega, by omega⟩
theorem c_caller {n : Nat} {h : VH} : Run (prg.call (n + 2) f_caller [.int many, .int stride] h) fun r h' => r = guestW (cCode many stride) (cFirst many stride) ∧ Mod no h h' := by
  refine run_q fun Q q => ?_
  rw [u_caller]
  simp [b_caller]
  have e2 : ((many : Int) + 2) = ((many + 2 : Nat) : Int) := by omega
  rw [e2]
  refine run_bind c_data_base ?_
  rintro _ _ ⟨rfl, rfl⟩
  have ej : (many : Int) < 2305843009213693952 := by omega
  have es : stride < 1152921504606846976 := by
    have : stride ≤ many * stride := Nat.le_mul_of_pos_left _ (by omega)
    omega
  have em : many ≤ 16777216 := by omega
  have em2 : many + 2 ≤ 16777216 := by omega
  simp [ej]
  refine run_bind (lc_mapx (List.range ((many : Int) - 0).toNat) (fun k => .int (0 + (k : Nat))) (fun k => insW (.load 2 0 ((cBase many : Nat) + (k : Int) * stride))) rfl (by simp; omega) (fun x h1 hx m => ?_)) ?_
  · simp [e_caller_1, es, Mod.rfl, insW, insL, cBase]
  rintro _ h1 ⟨rfl, m1⟩
  have ez : (many : Int) * (stride : Int) = ((many * stride : Nat) : Int) := by push_cast; rfl
  have ep : 1 ≤ many * stride := Nat.mul_pos (by omega) (by omega)
  generalize hz : many * stride = sz at *
  simp [es, em, em2, ez]
  rw [if_pos ⟨by omega, by omega⟩]
  simp
  refine q _ _ ⟨?_, m1.trans ((Mod.new.trans Mod.new).trans Mod.new)⟩
  simp [guestW, cCode, cFirst, hz, insW, insL]
/-! ### its run -/
def cLoad (k : Nat) : W := .tup [.str (S [108, 111, 97, 100]), .int ((cBase many : Nat) + (k : Int) * stride)]
def cDue (many stride : Nat) : List W := (List.range many).map (fun k => .tup [.str (S [108, 111, 97, 100]), .int ((cBase many : Nat) + (k : Int) * stride)]) ++ [.tup [.str (S [114, 101, 115, 116])]]
theorem cRound {ans : List Int} {L : Nat} (hL : cBase many + (many * stride + 1) ≤ L) : ∀ (d j : Nat) (M : MS), j + d = many → St L j M → ∀ n, ∃ M', ran (gOf (cCode many stride) ans) (n + d) M = ran (gOf (cCode many stride) ans) n M' ∧ St L many M' ∧
    deedsOf (cCode many stride) M'.met = deedsOf (cCode many stride) M.met ++ (List.range' j d).map (fun k => .tup [.str (S [108, 111, 97, 100]), .int ((cBase many : Nat) + (k : Int) * stride)])
  | 0, j, M, e, s, n => ⟨M, rfl, by rw [show many = j by omega]; exact s, by simp⟩
  | d + 1, j, M, e, s, n => by
    have lj : j < many := by omega
    have lc : j < (cCode many stride).length := by rw [cCode_len]; omega
    have pl := cPlace h1 h2 h3 h4 lj
    obtain ⟨t1, t2, t3⟩ := turn_load (g := gOf (cCode many stride) ans) s (cCode_at many stride lj) pl.1 (by omega) pl.2.2
    obtain ⟨M', q1, q2, q3⟩ := cRound hL d (j + 1) _ (by omega) t1 n
    refine ⟨M', ?_, q2, ?_⟩
    · rw [← q1, ← Nat.add_assoc]
      exact s.ran1 lc
    · rw [q3, t2]
      have ek : kindAt (cCode many stride) j = (S [108, 111, 97, 100]) := by unfold kindAt; rw [cCode_at many stride lj]; rfl
      have d1 : deed1 (cCode many stride) (mt j (-1)) = none := by simp [deed1, ek, quietS]
      have d2 : deed1 (cCode many stride) (mt j ((cBase many : Nat) + (j : Int) * stride)) = some (.tup [.str (S [108, 111, 97, 100]), .int ((cBase many : Nat) + (j : Int) * stride)]) := by
        simp only [deed1, if_pos pl.1, Int.toNat_natCast, ek]
      simp only [deedsOf, List.filterMap_append, List.filterMap_cons, d1, d2, List.filterMap_nil, List.range'_succ, List.map_cons, List.append_assoc, List.cons_append, List.nil_append]
theorem cWhole {ans : List Int} {L : Nat} (hL : cBase many + (many * stride + 1) ≤ L) (M : MS) (s : St L 0 M) (n : Nat) : ∃ M', ran (gOf (cCode many stride) ans) (n + (many + 2)) M = ran (gOf (cCode many stride) ans) n M' ∧ St L 0 M' ∧
    deedsOf (cCode many stride) M'.met = deedsOf (cCode many stride) M.met ++ cDue many stride := by
  obtain ⟨M1, q1, q2, q3⟩ := cRound h1 h2 h3 h4 (ans := ans) hL many 0 M (by omega) s (n + 2)
  obtain ⟨t1, t2, t3⟩ := turn_rest (g := gOf (cCode many stride) ans) q2 (cCode_rest many stride)
  obtain ⟨u1, u2, u3⟩ := turn_go (k := 0) (g := gOf (cCode many stride) ans) t1 (cCode_go many stride)
  refine ⟨_, ?_, u1, ?_⟩
  · rw [show n + (many + 2) = n + 2 + many by omega, q1, q2.ran1 (by show many < (cCode many stride).length; rw [cCode_len]; omega), t1.ran1 (by show many + 1 < (cCode many stride).length; rw [cCode_len]; omega)]
  · rw [u2, t2]
    have ek : kindAt (cCode many stride) many = (S [114, 101, 115, 116]) := by unfold kindAt; rw [cCode_rest]; rfl
    have ek2 : kindAt (cCode many stride) (many + 1) = (S [103, 111]) := by unfold kindAt; rw [cCode_go]; rfl
    have d1 : deed1 (cCode many stride) (mt many (-1)) = some (.tup [.str (S [114, 101, 115, 116])]) := by simp [deed1, ek, quietS]
    have d2 : deed1 (cCode many stride) (mt (many + 1 : Nat) (-1)) = none := by
      have e : ((many : Int) + 1).toNat = many + 1 := by omega
      simp [deed1, ek2, quietS, e]
    unfold deedsOf at q3 ⊢
    simp only [List.filterMap_append, List.filterMap_cons, d1, d2, List.filterMap_nil, q3, cDue, List.range_eq_range', List.append_assoc, List.append_nil]
theorem cRan {ans : List Int} {steps : Nat} (hst : 2 * (many + 2) ≤ steps) : (deedsOf (cCode many stride) (ranS (gOf (cCode many stride) ans) steps (M0 (cCode many stride) (cFirst many stride))).met).take (2 * many + 2) = cDue many stride ++ cDue many stride := by
  have ml := memOf_len (code := cCode many stride) (first := cFirst many stride)
  have eb : up16 (cCode many stride).length = cBase many := by rw [cCode_len]; rfl
  have ef : (cFirst many stride).length = many * stride + 1 := by simp [cFirst]
  rw [eb, ef] at ml
  obtain ⟨M1, q1, q2, q3⟩ := cWhole h1 h2 h3 h4 (ans := ans) ml (M0 (cCode many stride) (cFirst many stride)) M0_st (steps - 2 * (many + 2) + (many + 2))
  obtain ⟨M2, r1, r2, r3⟩ := cWhole h1 h2 h3 h4 (ans := ans) ml M1 q2 (steps - 2 * (many + 2))
  rw [ranS_met, show steps = steps - 2 * (many + 2) + (many + 2) + (many + 2) by omega, q1, r1]
  obtain ⟨l, hl⟩ := ran_prefix (gOf (cCode many stride) ans) (steps - 2 * (many + 2)) M2
  have e0 : deedsOf (cCode many stride) (M0 (cCode many stride) (cFirst many stride)).met = [] := rfl
  rw [hl]
  unfold deedsOf at q3 r3 e0 ⊢
  rw [List.filterMap_append, r3, q3, e0]
  have el : ([] ++ cDue many stride ++ cDue many stride).length = 2 * many + 2 := by simp [cDue]; omega
  rw [List.take_append_of_le_length (by omega), List.take_of_length_le (by omega)]
  rfl
end
end Nw

set_option Elab.async false
set_option linter.all false
set_option maxRecDepth 100000
set_option maxHeartbeats 4000000
/-! k77: the caller is looked at. -/
namespace Nw
open PySem PySem.Spec PyProof.Rows L2
theorem lay_zero (k : Nat) : (List.replicate k (W.int 0)).all (layW 49) = true := by simp [List.all_eq_true, List.mem_replicate]
theorem MR.mod {h h' : VH} {g : MG} {m rm rr rd rt : Nat} {M : MS} (a : MR h g m rm rr rd rt M) (x : Mod no h h') : MR h' g m rm rr rd rt M :=
  ⟨x.get a.hm (fun z => z), x.get a.hmm (fun z => z), x.get a.hrr (fun z => z), x.get a.hrd (fun z => z), x.get a.hrt (fun z => z), a.ne⟩
theorem c_is_caller {n many stride : Nat} {h : VH} (h1 : 1 ≤ many) (h2 : many ≤ 40) (h3 : 1 ≤ stride) (h4 : many * stride ≤ 999) :
    Run (prg.call (n + 5) f_law_is_caller [guestW (cCode many stride) (cFirst many stride), .int many, .int stride] h) fun r h' => r = .bl true ∧ Mod no h h' := by
  refine run_q fun Q q => ?_
  have ok := cOk h1 h2 h3 h4
  rw [u_law_is_caller]
  simp [b_law_is_caller]
  refine run_bind (c_is_guest (n := n + 1) ok) ?_
  rintro _ h1' ⟨rfl, m1⟩
  have ez : (many : Int) * (stride : Int) = ((many * stride : Nat) : Int) := by push_cast; rfl
  have ep : 1 ≤ many * stride := Nat.mul_pos (by omega) (by omega)
  have es : stride < 1152921504606846976 := by
    have : stride ≤ many * stride := Nat.le_mul_of_pos_left _ (by omega)
    omega
  have ef : (cFirst many stride).length = many * stride + 1 := by simp [cFirst]
  have efW : (cFirst many stride).map W.int = List.replicate (many * stride + 1) (W.int 0) := by simp [cFirst]
  have eqz : ∀ h, eqW h (.tup (List.replicate (many * stride + 1) (W.int 0))) (.tup (List.replicate (many * stride + 1) (W.int 0))) = some true := fun h => eqW_tup (lay_zero _)
  have p1 : 2 ≤ ((many * stride : Nat) : Int) + 1 := by omega
  have p2 : ((many * stride : Nat) : Int) + 1 ≤ 1000 := by omega
  have p3 : (((many * stride : Nat) : Int) + 1).toNat = many * stride + 1 := by omega
  have em : many < 1152921504606846976 := by omega
  obtain ⟨st, hst⟩ : ∃ st, st = 2 * (8 * many + 8) := ⟨_, rfl⟩
  have cr := fun (h : VH) => c_code_ran (n := n) (h := h) (code := cCode many stride) (first := cFirst many stride) (ans := []) (steps := st) ok (fun x hx => by simp at hx) (by omega)
  have cd := fun (h : VH) (m rm rr rd rt : Nat) (M : MS) (a : MR h (gOf (cCode many stride) []) m rm rr rd rt M) => c_deeds (n := n + 3) (first := cFirst many stride) a
  have rn := cRan (ans := []) (steps := st) h1 h2 h3 h4 (by omega)
  have mo := ranS_ok (ans := []) ok (fun x hx => by simp at hx) st
  have eg : (gOf (cCode many stride) []).code = cCode many stride := rfl
  have est : (2 : Int) * (8 * (many : Int) + 8) = (st : Int) := by omega
  generalize hM : ranS (gOf (cCode many stride) []) st (M0 (cCode many stride) (cFirst many stride)) = Mf at *
  simp only [guestW, ef, efW, List.map_nil, eg] at *
  generalize hz : many * stride = sz at *
  simp [ez, es, p1, p2, p3, eqz, em, z_mull, est]
  refine run_bind (cr h1') ?_
  rintro _ h2' ⟨m, rm, rr, rd, rt, rfl, a, wf, fr, m2⟩
  have ej : (many : Int) < 2305843009213693952 := by omega
  have eb : (((cCode many stride).length : Int) + 15) / 16 * 16 = (cBase many : Nat) := by rw [up16_int, cCode_len]; rfl
  simp [ej, eb]
  refine run_bind (lc_mapx (List.range ((many : Int) - 0).toNat) (fun k => .int (0 + (k : Nat))) (fun k => .tup [.str (S [108, 111, 97, 100]), .int ((cBase many : Nat) + (k : Int) * stride)]) rfl (by simp; omega) (fun x h1 hx m => ?_)) ?_
  · simp [e_law_is_caller_1, es, Mod.rfl]
  rintro _ h3' ⟨rfl, m3⟩
  have em1 : many ≤ 16777216 := by omega
  have em2 : many + 1 ≤ 16777216 := by omega
  simp [em1, em2]
  have mm : Mod no h2' (hn (hn (hn h3' (.lst ((List.range many).map fun (k : Nat) => .tup [.str (S [108, 111, 97, 100]), .int ((cBase many : Nat) + (k : Int) * stride)]))) (.lst [.tup [.str (S [114, 101, 115, 116])]])) (.lst (cDue many stride))) := m3.trans ((Mod.new.trans Mod.new).trans Mod.new)
  have met := wf.met
  refine run_bind (cd _ _ _ _ _ _ _ (a.mod mm) mo (by omega)) ?_
  rintro _ h4' ⟨r, rfl, hr, fr4, m4⟩
  have hd : hg h4' (nx h3' 2) = some (.lst (cDue many stride)) := m4.get (by simp [cDue]) (fun z => z)
  have ec : cut (deedsOf (cCode many stride) Mf.met) none (some (2 * (many : Int) + 2)) = cDue many stride ++ cDue many stride := by
    rw [cut_to _ (by omega), show (2 * (many : Int) + 2).toNat = 2 * many + 2 by omega]; exact rn
  have ld : (cDue many stride).length = many + 1 := by simp [cDue]
  have lc : many + 1 + (many + 1) ≤ 16777216 := by omega
  simp [hr, hd, ec, ld, lc, em]
  have lay : (cDue many stride ++ cDue many stride).all (layW 50) = true := by
    have z : (cDue many stride).all (layW 50) = true := by simp [cDue, List.all_eq_true]
    rw [List.all_append, z]; rfl
  have ee := eqW_lst (h := hn (hn h4' (.lst (cDue many stride ++ cDue many stride))) (.lst (cDue many stride ++ cDue many stride))) (a := nx h4' 0) (b := nx h4' 1) lay (by simp) (by simp)
  simp [ee]
  exact q _ _ ⟨rfl, (((m1.trans m2).trans mm).trans m4).trans (Mod.new.trans Mod.new)⟩
end Nw

set_option Elab.async false
set_option linter.all false
set_option maxRecDepth 100000
set_option maxHeartbeats 4000000
/-! k77: the listener and the idle guest: their runs. -/
namespace Nw
open PySem PySem.Spec PyProof.Rows L2
theorem ran_step {g : MG} {n : Nat} {M : MS} (w : M.word = (S [])) (l : M.at_ < g.code.length) : ran g (n + 1) M = ran g n (turn g M) := by
  have e : over g M = M := if_neg (fun z => by have := z.2; omega)
  show (if (over g M).word = (S []) then ran g n (turn g (over g M)) else over g M) = _
  rw [e, if_pos w]
theorem ran_stop {g : MG} {M : MS} (w : M.word ≠ (S [])) : ∀ n, ran g n M = M
  | 0 => rfl
  | n + 1 => by
    have e : over g M = M := if_neg (fun z => w z.1)
    show (if (over g M).word = (S []) then ran g n (turn g (over g M)) else over g M) = _
    rw [e, if_neg w]
/-! ### idle -/
def iCode : List Ins := [.fin (S [100, 111, 110, 101])]
theorem c_idle {n : Nat} {h : VH} : Run (prg.call (n + 1) f_idle [] h) fun r h' => r = guestW iCode [] ∧ h' = h := by
  refine run_q fun Q q => ?_
  rw [u_idle]
  simp [b_idle]
  exact q _ _ ⟨by simp [guestW, iCode, insW, insL], rfl⟩
theorem iOk : GOk iCode [] := ⟨fun i hi => by simp [iCode] at hi; subst hi; exact .inl rfl, by simp [iCode], by simp [iCode], by simp, fun x hx => by simp at hx⟩
theorem iRan {ans : List Int} : (ranS (gOf iCode ans) 1 (M0 iCode [])).word = (S [100, 111, 110, 101]) ∧ (ranS (gOf iCode ans) 1 (M0 iCode [])).deeds = [] := by
  have e : ran (gOf iCode ans) 1 (M0 iCode []) = turn (gOf iCode ans) (M0 iCode []) := by
    rw [ran_step rfl (by show (0 : Int) < _; simp [gOf, iCode])]
    rfl
  have e1 : (turn (gOf iCode ans) (M0 iCode [])).word = (S [100, 111, 110, 101]) := by simp [turn, gOf, iCode, M0, met1, step, stepI]
  have e2 : (turn (gOf iCode ans) (M0 iCode [])).deeds = [] := by simp [turn, gOf, iCode, M0, met1, step, stepI]
  unfold ranS
  rw [e, if_neg (by rw [e1]; simp)]
  exact ⟨e1, e2⟩
/-! ### the listener -/
section
variable (at_ many : Nat)
def lCode : List Ins := [.load 2 0 (16 + (at_ : Int)), .rest, .time 3, .load 2 0 (16 + (at_ : Int)), .time 4, .op (S [45]) 1 4 3, .rest, .fin (S [100, 111, 110, 101])]
def lFirst : List Int := List.replicate (at_ + 16 * many + 1) 0
theorem lOk (h1 : at_ ≤ 500) (h2 : at_ + 16 * many ≤ 900) : GOk (lCode at_) (lFirst at_ many) := by
  refine ⟨fun i hi => ?_, by simp [lCode], by simp [lCode], by simp [lFirst]; omega, fun x hx => ?_⟩
  · simp only [lCode, List.mem_cons, List.not_mem_nil, or_false] at hi
    rcases hi with rfl | rfl | rfl | rfl | rfl | rfl | rfl | rfl
    · exact ⟨⟨by omega, by omega⟩, ⟨by omega, by omega⟩, by omega, by omega⟩
    · trivial
    · exact ⟨by omega, by omega⟩
    · exact ⟨⟨by omega, by omega⟩, ⟨by omega, by omega⟩, by omega, by omega⟩
    · exact ⟨by omega, by omega⟩
    · exact ⟨by simp [signs], ⟨by omega, by omega⟩, ⟨by omega, by omega⟩, by omega, by omega⟩
    · trivial
    · exact .inl rfl
  · simp only [lFirst, List.mem_replicate] at hx
    rw [hx.2]; exact ⟨by omega, by omega⟩
theorem c_listener {n : Nat} {h : VH} (h1 : at_ ≤ 500) (h2 : at_ + 16 * many ≤ 900) (h3 : 1 ≤ many) : Run (prg.call (n + 2) f_listener [.int at_, .int many] h) fun r h' => r = guestW (lCode at_) (lFirst at_ many) ∧ h' = h := by
  refine run_q fun Q q => ?_
  rw [u_listener]
  simp [b_listener]
  refine run_bind (c_data_base (many := 8)) ?_
  rintro _ _ ⟨rfl, rfl⟩
  have e8 : up16 8 = 16 := rfl
  have em : many < 1152921504606846976 := by omega
  simp [e8, em]
  rw [if_pos ⟨by omega, by omega⟩]
  simp
  refine q _ _ ⟨?_, rfl⟩
  have e : ((at_ : Int) + 16 * (many : Int) + 1).toNat = at_ + 16 * many + 1 := by omega
  simp [guestW, lCode, lFirst, insW, insL, e]
variable {at_ many} (h1 : at_ ≤ 500) (h2 : at_ + 16 * many ≤ 900) (h3 : 1 ≤ many) (a0 a1 : Int)
def lT (mem : List Int) (at_ : Nat) (v a0 a1 : Int) : Nat → MS
  | 0 => ⟨mem, [0, 0, 0, 0, 0, 0, 0, 0], 0, 0, [], (S []), 0, []⟩
  | 1 => ⟨mem, [0, 0, v, 0, 0, 0, 0, 0], 1, 0, [], (S []), 1, [mt 0 (-1), mt 0 (16 + (at_ : Int))]⟩
  | 2 => ⟨mem, [0, 0, v, 0, 0, 0, 0, 0], 2, 0, [.tup [.str (S [114, 101, 115, 116])]], (S []), 2, [mt 0 (-1), mt 0 (16 + (at_ : Int)), mt 1 (-1)]⟩
  | 3 => ⟨mem, [0, 0, v, a0, 0, 0, 0, 0], 3, 1, [.tup [.str (S [114, 101, 115, 116])], .tup [.str (S [116, 105, 109, 101]), .int a0]], (S []), 3, [mt 0 (-1), mt 0 (16 + (at_ : Int)), mt 1 (-1), mt 2 (-1)]⟩
  | 4 => ⟨mem, [0, 0, v, a0, 0, 0, 0, 0], 4, 1, [.tup [.str (S [114, 101, 115, 116])], .tup [.str (S [116, 105, 109, 101]), .int a0]], (S []), 4, [mt 0 (-1), mt 0 (16 + (at_ : Int)), mt 1 (-1), mt 2 (-1), mt 3 (-1), mt 3 (16 + (at_ : Int))]⟩
  | 5 => ⟨mem, [0, 0, v, a0, a1, 0, 0, 0], 5, 2, [.tup [.str (S [114, 101, 115, 116])], .tup [.str (S [116, 105, 109, 101]), .int a0], .tup [.str (S [116, 105, 109, 101]), .int a1]], (S []), 5, [mt 0 (-1), mt 0 (16 + (at_ : Int)), mt 1 (-1), mt 2 (-1), mt 3 (-1), mt 3 (16 + (at_ : Int)), mt 4 (-1)]⟩
  | 6 => ⟨mem, [0, ((a1 - a0) % 4294967296), v, a0, a1, 0, 0, 0], 6, 2, [.tup [.str (S [114, 101, 115, 116])], .tup [.str (S [116, 105, 109, 101]), .int a0], .tup [.str (S [116, 105, 109, 101]), .int a1]], (S []), 6, [mt 0 (-1), mt 0 (16 + (at_ : Int)), mt 1 (-1), mt 2 (-1), mt 3 (-1), mt 3 (16 + (at_ : Int)), mt 4 (-1), mt 5 (-1)]⟩
  | 7 => ⟨mem, [0, ((a1 - a0) % 4294967296), v, a0, a1, 0, 0, 0], 7, 2, [.tup [.str (S [114, 101, 115, 116])], .tup [.str (S [116, 105, 109, 101]), .int a0], .tup [.str (S [116, 105, 109, 101]), .int a1], .tup [.str (S [114, 101, 115, 116])]], (S []), 7, [mt 0 (-1), mt 0 (16 + (at_ : Int)), mt 1 (-1), mt 2 (-1), mt 3 (-1), mt 3 (16 + (at_ : Int)), mt 4 (-1), mt 5 (-1), mt 6 (-1)]⟩
  | _ => ⟨mem, [0, ((a1 - a0) % 4294967296), v, a0, a1, 0, 0, 0], 8, 2, [.tup [.str (S [114, 101, 115, 116])], .tup [.str (S [116, 105, 109, 101]), .int a0], .tup [.str (S [116, 105, 109, 101]), .int a1], .tup [.str (S [114, 101, 115, 116])]], (S [100, 111, 110, 101]), 8, [mt 0 (-1), mt 0 (16 + (at_ : Int)), mt 1 (-1), mt 2 (-1), mt 3 (-1), mt 3 (16 + (at_ : Int)), mt 4 (-1), mt 5 (-1), mt 6 (-1), mt 7 (-1)]⟩
theorem lTurns {g : MG} {mem : List Int} (hc : g.code = lCode at_) (ha : g.ans = [a0, a1]) (hm : 16 + (at_ : Int) < mem.length) (h1 : at_ ≤ 500) :
    ∀ k, k < 8 → turn g (lT mem at_ (gI mem (16 + at_)) a0 a1 k) = lT mem at_ (gI mem (16 + at_)) a0 a1 (k + 1) := by
  intro k hk
  have c : ¬ (mem.length : Int) ≤ 16 + at_ := by omega
  have e : (16 + (at_ : Int)) % 4294967296 = 16 + at_ := by omega
  have cs : k = 0 ∨ k = 1 ∨ k = 2 ∨ k = 3 ∨ k = 4 ∨ k = 5 ∨ k = 6 ∨ k = 7 := by omega
  rcases cs with rfl | rfl | rfl | rfl | rfl | rfl | rfl | rfl <;> simp [lT, turn, hc, ha, lCode, met1, step, stepI, gI, e, c, opI]
theorem lAt (mem : List Int) (v : Int) : ∀ k, k < 8 → (lT mem at_ v a0 a1 k).word = (S []) ∧ (lT mem at_ v a0 a1 k).at_ = k := by
  intro k hk
  have cs : k = 0 ∨ k = 1 ∨ k = 2 ∨ k = 3 ∨ k = 4 ∨ k = 5 ∨ k = 6 ∨ k = 7 := by omega
  rcases cs with rfl | rfl | rfl | rfl | rfl | rfl | rfl | rfl <;> exact ⟨rfl, rfl⟩
theorem lRan {g : MG} {mem : List Int} (hc : g.code = lCode at_) (ha : g.ans = [a0, a1]) (hm : 16 + (at_ : Int) < mem.length) (h1 : at_ ≤ 500) :
    ∀ d k n, k + d ≤ 8 → ran g (n + d) (lT mem at_ (gI mem (16 + at_)) a0 a1 k) = ran g n (lT mem at_ (gI mem (16 + at_)) a0 a1 (k + d))
  | 0, k, n, _ => rfl
  | d + 1, k, n, h => by
    obtain ⟨w, e⟩ := lAt (at_ := at_) a0 a1 mem (gI mem (16 + at_)) k (by omega)
    rw [← Nat.add_assoc, ran_step w (by rw [e, hc]; simp [lCode]; omega), lTurns a0 a1 hc ha hm h1 k (by omega), lRan hc ha hm h1 d (k + 1) n (by omega)]
    congr 2
    omega
theorem lMem (h1 : at_ ≤ 500) (h2 : at_ + 16 * many ≤ 900) (h3 : 1 ≤ many) : 16 + (at_ : Int) < (memOf (lCode at_) (lFirst at_ many)).length := by
  have := memOf_len (code := lCode at_) (first := lFirst at_ many)
  have e : up16 (lCode at_).length = 16 := by simp [lCode, up16]
  have ef : (lFirst at_ many).length = at_ + 16 * many + 1 := by simp [lFirst]
  rw [e, ef] at this
  omega
theorem lM0 : M0 (lCode at_) (lFirst at_ many) = lT (memOf (lCode at_) (lFirst at_ many)) at_ (gI (memOf (lCode at_) (lFirst at_ many)) (16 + at_)) a0 a1 0 := by
  simp [M0, lT, List.replicate]
theorem lRan40 (h1 : at_ ≤ 500) (h2 : at_ + 16 * many ≤ 900) (h3 : 1 ≤ many) : ranS (gOf (lCode at_) [a0, a1]) 40 (M0 (lCode at_) (lFirst at_ many)) = lT (memOf (lCode at_) (lFirst at_ many)) at_ (gI (memOf (lCode at_) (lFirst at_ many)) (16 + at_)) a0 a1 8 := by
  have e : ran (gOf (lCode at_) [a0, a1]) 40 (M0 (lCode at_) (lFirst at_ many)) = lT (memOf (lCode at_) (lFirst at_ many)) at_ (gI (memOf (lCode at_) (lFirst at_ many)) (16 + at_)) a0 a1 8 := by
    rw [lM0 a0 a1, show 40 = 32 + 8 by rfl, lRan a0 a1 rfl rfl (lMem h1 h2 h3) h1 8 0 32 (by omega)]
    exact ran_stop (by simp [lT]) 32
  unfold ranS
  rw [e, if_neg (by simp [lT])]
theorem lRanK (h1 : at_ ≤ 500) (h2 : at_ + 16 * many ≤ 900) (h3 : 1 ≤ many) {k : Nat} (hk : k < 8) : (ranS (gOf (lCode at_) [a0, a1]) k (M0 (lCode at_) (lFirst at_ many))).deeds = (lT (memOf (lCode at_) (lFirst at_ many)) at_ (gI (memOf (lCode at_) (lFirst at_ many)) (16 + at_)) a0 a1 k).deeds ∧
    (ranS (gOf (lCode at_) [a0, a1]) k (M0 (lCode at_) (lFirst at_ many))).regs = (lT (memOf (lCode at_) (lFirst at_ many)) at_ (gI (memOf (lCode at_) (lFirst at_ many)) (16 + at_)) a0 a1 k).regs := by
  have e : ran (gOf (lCode at_) [a0, a1]) k (M0 (lCode at_) (lFirst at_ many)) = lT (memOf (lCode at_) (lFirst at_ many)) at_ (gI (memOf (lCode at_) (lFirst at_ many)) (16 + at_)) a0 a1 k := by
    have := lRan (at_ := at_) a0 a1 (g := gOf (lCode at_) [a0, a1]) rfl rfl (lMem h1 h2 h3) h1 k 0 0 (by omega)
    rw [lM0 a0 a1]
    simpa [ran] using this
  rw [ranS_deeds, ranS_regs, e]
  exact ⟨rfl, rfl⟩
theorem lDeeds (mem : List Int) (v : Int) : deedsOf (lCode at_) (lT mem at_ v a0 a1 8).met = [.tup [.str (S [108, 111, 97, 100]), .int (16 + (at_ : Int))], .tup [.str (S [114, 101, 115, 116])], .tup [.str (S [116, 105, 109, 101])], .tup [.str (S [108, 111, 97, 100]), .int (16 + (at_ : Int))], .tup [.str (S [116, 105, 109, 101])], .tup [.str (S [114, 101, 115, 116])]] := by
  have c : (0 : Int) ≤ 16 + at_ := by omega
  simp [deedsOf, lT, deed1, kindAt, lCode, kindS, quietS, c]
end
end Nw

set_option Elab.async false
set_option linter.all false
set_option maxRecDepth 100000
set_option maxHeartbeats 4000000
/-! k77: the listener is looked at; the law. -/
namespace Nw
open PySem PySem.Spec PyProof.Rows L2
def RanQ (code : List Ins) (first ans : List Int) (steps : Nat) (h : VH) (r : W) (h' : VH) : Prop := ∃ m rm rr rd rt, r = .ref m ∧
      MR h' (gOf code ans) m rm rr rd rt (ranS (gOf code ans) steps (M0 code first)) ∧ MW (gOf code ans) (2 * steps) (ranS (gOf code ans) steps (M0 code first)) ∧ FR h m rm rr rd rt ∧ Mod no h h'
theorem c_is_listener {n at_ many w d : Nat} {h : VH} (h1 : at_ ≤ 500) (h2 : at_ + 16 * many ≤ 900) (h3 : 1 ≤ many) (wk : WOk h w d) :
    Run (prg.call (n + 5) f_law_is_listener [.ref w, guestW (lCode at_) (lFirst at_ many), .int at_, .int many] h) fun r h' => r = .bl true ∧ Mod (· = w) h h' := by
  refine run_q fun Q q => ?_
  have ok := lOk at_ many h1 h2
  rw [u_law_is_listener]
  simp [b_law_is_listener]
  refine run_bind (c_is_guest (n := n + 1) ok) ?_
  rintro _ h1' ⟨rfl, m1⟩
  have wk1 := wk.mod m1 (fun z => z) (fun z => z)
  have ef : (lFirst at_ many).length = at_ + 16 * many + 1 := by simp [lFirst]
  have efW : (lFirst at_ many).map W.int = List.replicate (at_ + 16 * many + 1) (W.int 0) := by simp [lFirst]
  have eqz : ∀ h, eqW h (.tup (List.replicate (at_ + 16 * many + 1) (W.int 0))) (.tup (List.replicate (at_ + 16 * many + 1) (W.int 0))) = some true := fun h => eqW_tup (lay_zero _)
  have em : many < 1152921504606846976 := by omega
  have p0 : ¬ (at_ : Int) + 16 * (many : Int) + 1 < (at_ : Int) + 16 * (many : Int) := by omega
  have p1 : 2 ≤ (at_ : Int) + 16 * (many : Int) + 1 := by omega
  have p2 : (at_ : Int) + 16 * (many : Int) + 1 ≤ 1000 := by omega
  have p3 : ((at_ : Int) + 16 * (many : Int) + 1).toNat = at_ + 16 * many + 1 := by omega
  have hG : guestW (lCode at_) (lFirst at_ many) = .tup [.tup ((lCode at_).map insW), .int (at_ + 16 * many + 1), .tup (List.replicate (at_ + 16 * many + 1) (W.int 0))] := by
    simp only [guestW, ef, efW]; simp
  rw [hG]
  simp [em, p0, p1, p2, p3, eqz]
  refine run_bind (c_word (n := n + 1) wk1) ?_
  rintro _ h2' ⟨a0, rfl, wa0, wk2, m2⟩
  simp
  refine run_bind (c_word (n := n + 1) wk2) ?_
  rintro _ h3' ⟨a1, rfl, wa1, wk3, m3⟩
  have hw : ∀ x ∈ [a0, a1], isW x := fun x hx => by
    simp only [List.mem_cons, List.not_mem_nil, or_false] at hx
    rcases hx with rfl | rfl <;> assumption
  have cr : ∀ (h : VH) (k : Nat), k ≤ 40 → Run (prg.call (n + 4) f_law_code_ran [.tup [.tup ((lCode at_).map insW), .int (at_ + 16 * many + 1), .tup (List.replicate (at_ + 16 * many + 1) (W.int 0))], .tup [.int a0, .int a1], .int k] h)
      (RanQ (lCode at_) (lFirst at_ many) [a0, a1] k h) := fun h k hk => by
    rw [← hG]
    exact c_code_ran (n := n) (h := h) (code := lCode at_) (first := lFirst at_ many) (ans := [a0, a1]) (steps := k) ok hw (by omega)
  have cd : ∀ {h : VH} {m rm rr rd rt : Nat} {M : MS}, MR h (gOf (lCode at_) [a0, a1]) m rm rr rd rt M → MetOk (gOf (lCode at_) [a0, a1]) M → M.met.length < 1000000 → Run (prg.call (n + 4) f_law_deeds [.tup [.tup ((lCode at_).map insW), .int (at_ + 16 * many + 1), .tup (List.replicate (at_ + 16 * many + 1) (W.int 0))], .ref m] h)
      fun x h' => ∃ r, x = .ref r ∧ hg h' r = some (.lst (deedsOf (lCode at_) M.met)) ∧ h.length ≤ r ∧ Mod no h h' := fun a mo l => by
    rw [← hG]
    exact c_deeds (n := n + 3) (first := lFirst at_ many) a mo l
  have cr40 := fun (h : VH) => cr h 40 (by omega)
  simp
  refine run_bind (cr40 h3') ?_
  rintro _ h4' ⟨m, rm, rr, rd, rt, rfl, a, wf, fr, m4⟩
  rw [lRan40 a0 a1 h1 h2 h3] at a wf
  have mo := ranS_ok (ans := [a0, a1]) ok hw 40
  rw [lRan40 a0 a1 h1 h2 h3] at mo
  have ld := lDeeds a0 a1 (memOf (lCode at_) (lFirst at_ many)) (gI (memOf (lCode at_) (lFirst at_ many)) (16 + at_)) (at_ := at_)
  generalize hM : lT (memOf (lCode at_) (lFirst at_ many)) at_ (gI (memOf (lCode at_) (lFirst at_ many)) (16 + at_)) a0 a1 8 = Mf at a wf mo ld
  have hMw : Mf.word = (S [100, 111, 110, 101]) := by rw [← hM]; simp [lT]
  have hMd : Mf.deeds = [.tup [.str (S [114, 101, 115, 116])], .tup [.str (S [116, 105, 109, 101]), .int a0], .tup [.str (S [116, 105, 109, 101]), .int a1], .tup [.str (S [114, 101, 115, 116])]] := by rw [← hM]; simp [lT]
  have el : (((lCode at_).length : Int) + 15) / 16 * 16 = 16 := by simp [lCode]
  simp [el]
  refine run_bind (cd a mo (by have := wf.met; omega)) ?_
  rintro _ h5' ⟨r, rfl, hr, fr5, m5⟩
  rw [ld] at hr
  simp
  have ee : eqW (hn h5' (.lst [.tup [.str (S [108, 111, 97, 100]), .int (16 + (at_ : Int))], .tup [.str (S [114, 101, 115, 116])], .tup [.str (S [116, 105, 109, 101])], .tup [.str (S [108, 111, 97, 100]), .int (16 + (at_ : Int))], .tup [.str (S [116, 105, 109, 101])], .tup [.str (S [114, 101, 115, 116])]])) (.ref r) (.ref (nx h5' 0)) = some true := eqW_lst (ws := [.tup [.str (S [108, 111, 97, 100]), .int (16 + (at_ : Int))], .tup [.str (S [114, 101, 115, 116])], .tup [.str (S [116, 105, 109, 101])], .tup [.str (S [108, 111, 97, 100]), .int (16 + (at_ : Int))], .tup [.str (S [116, 105, 109, 101])], .tup [.str (S [114, 101, 115, 116])]]) (by simp) (by simp [hr]) (by simp)
  have a5 := a.mod (m5.trans (Mod.new (o := .lst [.tup [.str (S [108, 111, 97, 100]), .int (16 + (at_ : Int))], .tup [.str (S [114, 101, 115, 116])], .tup [.str (S [116, 105, 109, 101])], .tup [.str (S [108, 111, 97, 100]), .int (16 + (at_ : Int))], .tup [.str (S [116, 105, 109, 101])], .tup [.str (S [114, 101, 115, 116])]])))
  have h6 := a5.hm
  have h7 := a5.hrd
  rw [hMd] at h7
  simp [ee, h6, hMw]
  have fin : ∀ (h' : VH), Mod (· = w) h h' → ∀ env : Env, env 1 = some (.tup [.tup ((lCode at_).map insW), .int (at_ + 16 * many + 1), .tup (List.replicate (at_ + 16 * many + 1) (W.int 0))]) → env 4 = some (.tup [.int a0, .int a1]) →
      Run (forK (forF (prg.cfg (n + 4)) (.nm 7) l_law_is_listener_1) env (.ws (rangeW 0 40)) h') fun r h'' => r.1 = .rt (.bl true) ∧ Mod (· = w) h h'' := fun h' md env e1 e4 => by
    refine for_inv (rangeW 0 40) (fun i env h' => i ≤ 7 ∧ Mod (· = w) h h' ∧ env 1 = some (.tup [.tup ((lCode at_).map insW), .int (at_ + 16 * many + 1), .tup (List.replicate (at_ + 16 * many + 1) (W.int 0))]) ∧ env 4 = some (.tup [.int a0, .int a1]))
      (fun fl env h' => fl = .rt (.bl true) ∧ Mod (· = w) h h') ⟨by omega, md, e1, e4⟩ (fun _ _ _ _ => rfl) (fun env h' z => absurd z.1 (by rw [range_len]; decide)) ?_
    rintro i x env h' hx ⟨l7, md, e1, e4⟩
    obtain ⟨rfl, lt⟩ := range_at hx
    refine run_q fun Q q => ?_
    have cri := cr h' i (by omega)
    simp [l_law_is_listener_1, e1, e4]
    refine run_bind cri ?_
    rintro _ hh ⟨m, rm, rr, rd, rt, rfl, a, wf, fr, m4⟩
    obtain ⟨kd, kr⟩ := lRanK a0 a1 h1 h2 h3 (k := i) (by omega)
    have g6 := a.hm
    have g7 := a.hrd
    have g8 := a.hrr
    have mdd : Mod (· = w) h hh := md.trans m4.of_no
    simp [g6, g7, g8, kd, kr]
    have cs : i = 0 ∨ i = 1 ∨ i = 2 ∨ i = 3 ∨ i = 4 ∨ i = 5 ∨ i = 6 ∨ i = 7 := by omega
    rcases cs with rfl | rfl | rfl | rfl | rfl | rfl | rfl | rfl
    iterate 7
      · simp [lT]
        refine q _ _ ?_
        simp only [aft_nx]
        exact ⟨by omega, mdd, by simp [e1], by simp [e4]⟩
    · simp [lT, e4]
      refine q _ _ ?_
      simp only [aft_rt]
      exact ⟨trivial, mdd⟩
  have h8 : hg (hn (hn h5' (.lst [.tup [.str (S [108, 111, 97, 100]), .int (16 + (at_ : Int))], .tup [.str (S [114, 101, 115, 116])], .tup [.str (S [116, 105, 109, 101])], .tup [.str (S [108, 111, 97, 100]), .int (16 + (at_ : Int))], .tup [.str (S [116, 105, 109, 101])], .tup [.str (S [114, 101, 115, 116])]])) (.lst [.tup [.str (S [114, 101, 115, 116])], .tup [.str (S [116, 105, 109, 101]), .int a0], .tup [.str (S [116, 105, 109, 101]), .int a1], .tup [.str (S [114, 101, 115, 116])]])) rd = some (.lst [.tup [.str (S [114, 101, 115, 116])], .tup [.str (S [116, 105, 109, 101]), .int a0], .tup [.str (S [116, 105, 109, 101]), .int a1], .tup [.str (S [114, 101, 115, 116])]]) := (Mod.new (s := no)).get h7 (fun z => z)
  have e7 : eqW (hn (hn h5' (.lst [.tup [.str (S [108, 111, 97, 100]), .int (16 + (at_ : Int))], .tup [.str (S [114, 101, 115, 116])], .tup [.str (S [116, 105, 109, 101])], .tup [.str (S [108, 111, 97, 100]), .int (16 + (at_ : Int))], .tup [.str (S [116, 105, 109, 101])], .tup [.str (S [114, 101, 115, 116])]])) (.lst [.tup [.str (S [114, 101, 115, 116])], .tup [.str (S [116, 105, 109, 101]), .int a0], .tup [.str (S [116, 105, 109, 101]), .int a1], .tup [.str (S [114, 101, 115, 116])]])) (.ref rd) (.ref (nx h5' 1)) = some true := eqW_lst (ws := [.tup [.str (S [114, 101, 115, 116])], .tup [.str (S [116, 105, 109, 101]), .int a0], .tup [.str (S [116, 105, 109, 101]), .int a1], .tup [.str (S [114, 101, 115, 116])]]) (by simp) h8 (by simp)
  simp [e7]
  refine run_bind (fin _ ?_ _ (by simp) (by simp)) ?_
  · exact (((((m1.of_no.trans m2).trans m3).trans m4.of_no).trans m5.of_no).trans Mod.new).trans Mod.new
  rintro ⟨_, env⟩ h9 ⟨rfl, m9⟩
  simp
  exact q _ _ ⟨rfl, m9⟩
end Nw

set_option Elab.async false
set_option linter.all false
set_option maxRecDepth 100000
set_option maxHeartbeats 4000000
/-! k77: the law. -/
namespace Nw
open PySem PySem.Spec PyProof.Rows L2
theorem c_law {n : Nat} {ns : List Int} (hl : ns.length ≤ 63) : Run (prg.call (n + 6) f_law [.rol (ns.map W.int)] []) fun r h' => r = .bl true := by
  refine run_q fun Q q => ?_
  rw [u_law]
  simp [b_law]
  refine run_bind (c_draws (n := n + 4) (many := 200) hl (by omega) (by omega)) ?_
  rintro _ h1 ⟨d, b, rfl, ⟨ds, hd, hn0, _⟩, hr, m1⟩
  simp
  have wk : WOk (hn h1 (.dct [(.inr sDraws, .ref d), (.inr sAt, .int 0)])) (nx h1 0) d := ⟨ds, 0, by simp, by simp [hd], hn0, by omega⟩
  refine run_bind (c_next (n := n + 4) wk (by omega)) ?_
  rintro _ h2 ⟨a, rfl, ⟨a0, a1⟩, wk2, m2⟩
  obtain ⟨many, em⟩ : ∃ many : Nat, (many : Int) = 1 + a := ⟨(1 + a).toNat, by omega⟩
  have k1 : (0 : Int) < many := by omega
  have k2 : (many : Int) < 1267650600228229401496703205376 := by omega
  have k3 : 1 ≤ 999 / (many : Int) := by rw [Int.le_ediv_iff_mul_le k1]; omega
  have k4 : (many : Int) * (999 / (many : Int)) ≤ 999 := Int.mul_ediv_self_le (by omega)
  have kn : 0 < many := by omega
  have kn2 : many < 1267650600228229401496703205376 := by omega
  simp [← em, k1, k2, kn, kn2]
  generalize hq : (if 999 / (many : Int) < 40 then 999 / (many : Int) else 40) = lim
  have q1 : 1 ≤ lim ∧ lim ≤ 999 / (many : Int) := by rw [← hq]; split <;> omega
  refine run_bind (c_next (n := n + 4) wk2 (by omega)) ?_
  rintro _ h3 ⟨b', rfl, ⟨b0, b1⟩, wk3, m3⟩
  obtain ⟨stride, es⟩ : ∃ s : Nat, (s : Int) = 1 + b' := ⟨(1 + b').toNat, by omega⟩
  have h4 : many * stride ≤ 999 := by
    have e : ((many * stride : Nat) : Int) = (many : Int) * (stride : Int) := by push_cast; rfl
    have : (many : Int) * (stride : Int) ≤ (many : Int) * (999 / (many : Int)) := Int.mul_le_mul_of_nonneg_left (by omega) (by omega)
    omega
  simp [← es]
  refine run_bind (c_caller (n := n + 3) (many := many) (stride := stride) (by omega) (by omega) (by omega) h4) ?_
  rintro _ h5 ⟨rfl, m5⟩
  simp
  refine run_bind (c_is_caller (n := n) (by omega) (by omega) (by omega) h4) ?_
  rintro _ h6 ⟨rfl, m6⟩
  have wk6 := wk3.mod (m5.trans m6) (fun z => z) (fun z => z)
  simp
  refine run_bind (c_next (n := n + 4) wk6 (by omega)) ?_
  rintro _ h7 ⟨c, rfl, ⟨c0, c1⟩, wk7, m7⟩
  obtain ⟨mn, ec⟩ : ∃ s : Nat, (s : Int) = 1 + c := ⟨(1 + c).toNat, by omega⟩
  have k5 : mn < 1152921504606846976 := by omega
  simp [← ec, k5]
  generalize hq2 : (if 900 - 16 * (mn : Int) < 500 then 900 - 16 * (mn : Int) else 500) = lim2
  have q2 : 0 ≤ lim2 ∧ lim2 ≤ 500 ∧ lim2 ≤ 900 - 16 * (mn : Int) := by rw [← hq2]; split <;> omega
  refine run_bind (c_next (n := n + 4) wk7 (by omega)) ?_
  rintro _ h8 ⟨e, rfl, ⟨e0, e1⟩, wk8, m8⟩
  obtain ⟨at_, ee⟩ : ∃ s : Nat, (s : Int) = e := ⟨e.toNat, by omega⟩
  subst ee
  simp
  refine run_bind (c_listener (n := n + 3) at_ mn (by omega) (by omega) (by omega)) ?_
  rintro _ _ ⟨rfl, rfl⟩
  simp
  refine run_bind (c_is_listener (n := n) (by omega) (by omega) (by omega) wk8) ?_
  rintro _ h9 ⟨rfl, m9⟩
  simp
  refine run_bind (c_idle (n := n + 4)) ?_
  rintro _ _ ⟨rfl, rfl⟩
  simp
  refine run_bind (c_code_ran (n := n + 1) (ans := []) (steps := 1) iOk (fun x hx => by simp at hx) (by omega)) ?_
  rintro _ h10 ⟨m, rm, rr, rd, rt, rfl, a, wf, fr, m10⟩
  simp
  refine run_bind (c_idle (n := n + 4)) ?_
  rintro _ _ ⟨rfl, rfl⟩
  simp
  refine run_bind (c_is_guest (n := n + 2) iOk) ?_
  rintro _ h11 ⟨rfl, m11⟩
  have b := a.mod m11
  have g1 := b.hm
  have g2 := b.hrd
  obtain ⟨r1, r2⟩ := iRan (ans := [])
  rw [r2] at g2
  simp [g1, r1]
  have eq : eqW (hn h11 (.lst [])) (.ref rd) (.ref (nx h11 0)) = some true := eqW_nil ((Mod.new (s := no)).get g2 (fun z => z)) (by simp)
  simp [eq]
  exact q _ _ rfl
theorem law_true (ns : List Int) (hl : ns.length ≤ 63) : ∃ h, prg.call 6 f_law [.rol (ns.map W.int)] [] = .ok (.bl true) h := by
  obtain ⟨a, h, e, rfl⟩ := c_law (n := 0) hl
  exact ⟨h, e⟩
end Nw

set_option Elab.async false
set_option linter.all false
set_option maxRecDepth 100000
set_option maxHeartbeats 0
/-! Printed by end.py: the program's top; the law. -/
namespace Nw
open PySem PySem.Spec PyProof.Rows L2
theorem top_mk {K : PySem.W.Frag} {h : Heap} {mg : Str → Option Value} (X : K.In h) (G : h.Ns mainGlobals mg)
    {f0 f1 f2 f3 f4 f5 f6 f7 f8 f9 f10 f11 f12 f13 f14 f15 f16 f17 f18 f19 f20 f21 f22 f23 : Addr} {od0 an0 od1 an1 od2 an2 od3 an3 od4 an4 od5 an5 od6 an6 od7 an7 od8 an8 od9 an9 od10 an10 od11 an11 od12 an12 od13 an13 od14 an14 od15 an15 od16 an16 od17 an17 od18 an18 od19 an19 od20 an20 od21 an21 od22 an22 od23 an23 : Option Addr} {sl0 sl1 sl2 sl3 sl4 sl5 sl6 sl7 sl8 sl9 sl10 sl11 sl12 sl13 sl14 sl15 sl16 sl17 sl18 sl19 sl20 sl21 sl22 sl23 : Array (Option Value)} {oc0 kV0 dc0 pm0 cd0 ct0 oc1 kV1 dc1 pm1 cd1 ct1 oc2 kV2 dc2 pm2 cd2 ct2 oc3 kV3 dc3 pm3 cd3 ct3 oc4 kV4 dc4 pm4 cd4 ct4 oc5 kV5 dc5 pm5 cd5 ct5 oc6 kV6 dc6 pm6 cd6 ct6 oc7 kV7 dc7 pm7 cd7 ct7 oc8 kV8 dc8 pm8 cd8 ct8 oc9 kV9 dc9 pm9 cd9 ct9 oc10 kV10 dc10 pm10 cd10 ct10 oc11 kV11 dc11 pm11 cd11 ct11 oc12 kV12 dc12 pm12 cd12 ct12 oc13 kV13 dc13 pm13 cd13 ct13 oc14 kV14 dc14 pm14 cd14 ct14 oc15 kV15 dc15 pm15 cd15 ct15 oc16 kV16 dc16 pm16 cd16 ct16 oc17 kV17 dc17 pm17 cd17 ct17 oc18 kV18 dc18 pm18 cd18 ct18 oc19 kV19 dc19 pm19 cd19 ct19 oc20 kV20 dc20 pm20 cd20 ct20 oc21 kV21 dc21 pm21 cd21 ct21 oc22 kV22 dc22 pm22 cd22 ct22 oc23 kV23 dc23 pm23 cd23 ct23 : Value}
    (a0 : PySem.W.nsIn K mainGlobals "idle" = some (some (.ref f0))) (l0 : K.lookup f0 = some ⟨oc0, od0, .func (PySem.W.fnOf "idle" "idle" (defArgs (topS 5)) (defBody (topS 5)) (defScope (topS 5)) .none kV0 dc0 pm0 an0 cd0 ct0), sl0⟩) (c0 : PySem.W.codeIn K cd0 "idle" = true) (k0 : PySem.W.keepIn K (.ref f0) = true)
    (a1 : PySem.W.nsIn K mainGlobals "data_base" = some (some (.ref f1))) (l1 : K.lookup f1 = some ⟨oc1, od1, .func (PySem.W.fnOf "data_base" "data_base" (defArgs (topS 6)) (defBody (topS 6)) (defScope (topS 6)) .none kV1 dc1 pm1 an1 cd1 ct1), sl1⟩) (c1 : PySem.W.codeIn K cd1 "data_base" = true) (k1 : PySem.W.keepIn K (.ref f1) = true)
    (a2 : PySem.W.nsIn K mainGlobals "caller" = some (some (.ref f2))) (l2 : K.lookup f2 = some ⟨oc2, od2, .func (PySem.W.fnOf "caller" "caller" (defArgs (topS 7)) (defBody (topS 7)) (defScope (topS 7)) .none kV2 dc2 pm2 an2 cd2 ct2), sl2⟩) (c2 : PySem.W.codeIn K cd2 "caller" = true) (k2 : PySem.W.keepIn K (.ref f2) = true)
    (a3 : PySem.W.nsIn K mainGlobals "listener" = some (some (.ref f3))) (l3 : K.lookup f3 = some ⟨oc3, od3, .func (PySem.W.fnOf "listener" "listener" (defArgs (topS 8)) (defBody (topS 8)) (defScope (topS 8)) .none kV3 dc3 pm3 an3 cd3 ct3), sl3⟩) (c3 : PySem.W.codeIn K cd3 "listener" = true) (k3 : PySem.W.keepIn K (.ref f3) = true)
    (a4 : PySem.W.nsIn K mainGlobals "_law_draws" = some (some (.ref f4))) (l4 : K.lookup f4 = some ⟨oc4, od4, .func (PySem.W.fnOf "_law_draws" "_law_draws" (defArgs (topS 10)) (defBody (topS 10)) (defScope (topS 10)) .none kV4 dc4 pm4 an4 cd4 ct4), sl4⟩) (c4 : PySem.W.codeIn K cd4 "_law_draws" = true) (k4 : PySem.W.keepIn K (.ref f4) = true)
    (a5 : PySem.W.nsIn K mainGlobals "_law_next" = some (some (.ref f5))) (l5 : K.lookup f5 = some ⟨oc5, od5, .func (PySem.W.fnOf "_law_next" "_law_next" (defArgs (topS 11)) (defBody (topS 11)) (defScope (topS 11)) .none kV5 dc5 pm5 an5 cd5 ct5), sl5⟩) (c5 : PySem.W.codeIn K cd5 "_law_next" = true) (k5 : PySem.W.keepIn K (.ref f5) = true)
    (a6 : PySem.W.nsIn K mainGlobals "_law_pick" = some (some (.ref f6))) (l6 : K.lookup f6 = some ⟨oc6, od6, .func (PySem.W.fnOf "_law_pick" "_law_pick" (defArgs (topS 12)) (defBody (topS 12)) (defScope (topS 12)) .none kV6 dc6 pm6 an6 cd6 ct6), sl6⟩) (c6 : PySem.W.codeIn K cd6 "_law_pick" = true) (k6 : PySem.W.keepIn K (.ref f6) = true)
    (a7 : PySem.W.nsIn K mainGlobals "_law_word" = some (some (.ref f7))) (l7 : K.lookup f7 = some ⟨oc7, od7, .func (PySem.W.fnOf "_law_word" "_law_word" (defArgs (topS 13)) (defBody (topS 13)) (defScope (topS 13)) .none kV7 dc7 pm7 an7 cd7 ct7), sl7⟩) (c7 : PySem.W.codeIn K cd7 "_law_word" = true) (k7 : PySem.W.keepIn K (.ref f7) = true)
    (a8 : PySem.W.nsIn K mainGlobals "_law_signs" = some (some (.ref f8))) (l8 : K.lookup f8 = some ⟨oc8, od8, .func (PySem.W.fnOf "_law_signs" "_law_signs" (defArgs (topS 14)) (defBody (topS 14)) (defScope (topS 14)) .none kV8 dc8 pm8 an8 cd8 ct8), sl8⟩) (c8 : PySem.W.codeIn K cd8 "_law_signs" = true) (k8 : PySem.W.keepIn K (.ref f8) = true)
    (a9 : PySem.W.nsIn K mainGlobals "_law_operate" = some (some (.ref f9))) (l9 : K.lookup f9 = some ⟨oc9, od9, .func (PySem.W.fnOf "_law_operate" "_law_operate" (defArgs (topS 15)) (defBody (topS 15)) (defScope (topS 15)) .none kV9 dc9 pm9 an9 cd9 ct9), sl9⟩) (c9 : PySem.W.codeIn K cd9 "_law_operate" = true) (k9 : PySem.W.keepIn K (.ref f9) = true)
    (a10 : PySem.W.nsIn K mainGlobals "_law_number" = some (some (.ref f10))) (l10 : K.lookup f10 = some ⟨oc10, od10, .func (PySem.W.fnOf "_law_number" "_law_number" (defArgs (topS 16)) (defBody (topS 16)) (defScope (topS 16)) .none kV10 dc10 pm10 an10 cd10 ct10), sl10⟩) (c10 : PySem.W.codeIn K cd10 "_law_number" = true) (k10 : PySem.W.keepIn K (.ref f10) = true)
    (a11 : PySem.W.nsIn K mainGlobals "_law_code_word" = some (some (.ref f11))) (l11 : K.lookup f11 = some ⟨oc11, od11, .func (PySem.W.fnOf "_law_code_word" "_law_code_word" (defArgs (topS 17)) (defBody (topS 17)) (defScope (topS 17)) .none kV11 dc11 pm11 an11 cd11 ct11), sl11⟩) (c11 : PySem.W.codeIn K cd11 "_law_code_word" = true) (k11 : PySem.W.keepIn K (.ref f11) = true)
    (a12 : PySem.W.nsIn K mainGlobals "_law_machine" = some (some (.ref f12))) (l12 : K.lookup f12 = some ⟨oc12, od12, .func (PySem.W.fnOf "_law_machine" "_law_machine" (defArgs (topS 18)) (defBody (topS 18)) (defScope (topS 18)) .none kV12 dc12 pm12 an12 cd12 ct12), sl12⟩) (c12 : PySem.W.codeIn K cd12 "_law_machine" = true) (k12 : PySem.W.keepIn K (.ref f12) = true)
    (a13 : PySem.W.nsIn K mainGlobals "_law_met" = some (some (.ref f13))) (l13 : K.lookup f13 = some ⟨oc13, od13, .func (PySem.W.fnOf "_law_met" "_law_met" (defArgs (topS 19)) (defBody (topS 19)) (defScope (topS 19)) .none kV13 dc13 pm13 an13 cd13 ct13), sl13⟩) (c13 : PySem.W.codeIn K cd13 "_law_met" = true) (k13 : PySem.W.keepIn K (.ref f13) = true)
    (a14 : PySem.W.nsIn K mainGlobals "_law_told" = some (some (.ref f14))) (l14 : K.lookup f14 = some ⟨oc14, od14, .func (PySem.W.fnOf "_law_told" "_law_told" (defArgs (topS 20)) (defBody (topS 20)) (defScope (topS 20)) .none kV14 dc14 pm14 an14 cd14 ct14), sl14⟩) (c14 : PySem.W.codeIn K cd14 "_law_told" = true) (k14 : PySem.W.keepIn K (.ref f14) = true)
    (a15 : PySem.W.nsIn K mainGlobals "_law_instruction" = some (some (.ref f15))) (l15 : K.lookup f15 = some ⟨oc15, od15, .func (PySem.W.fnOf "_law_instruction" "_law_instruction" (defArgs (topS 21)) (defBody (topS 21)) (defScope (topS 21)) .none kV15 dc15 pm15 an15 cd15 ct15), sl15⟩) (c15 : PySem.W.codeIn K cd15 "_law_instruction" = true) (k15 : PySem.W.keepIn K (.ref f15) = true)
    (a16 : PySem.W.nsIn K mainGlobals "_law_code_ran" = some (some (.ref f16))) (l16 : K.lookup f16 = some ⟨oc16, od16, .func (PySem.W.fnOf "_law_code_ran" "_law_code_ran" (defArgs (topS 22)) (defBody (topS 22)) (defScope (topS 22)) .none kV16 dc16 pm16 an16 cd16 ct16), sl16⟩) (c16 : PySem.W.codeIn K cd16 "_law_code_ran" = true) (k16 : PySem.W.keepIn K (.ref f16) = true)
    (a17 : PySem.W.nsIn K mainGlobals "_law_is_number" = some (some (.ref f17))) (l17 : K.lookup f17 = some ⟨oc17, od17, .func (PySem.W.fnOf "_law_is_number" "_law_is_number" (defArgs (topS 23)) (defBody (topS 23)) (defScope (topS 23)) .none kV17 dc17 pm17 an17 cd17 ct17), sl17⟩) (c17 : PySem.W.codeIn K cd17 "_law_is_number" = true) (k17 : PySem.W.keepIn K (.ref f17) = true)
    (a18 : PySem.W.nsIn K mainGlobals "_law_is_instruction" = some (some (.ref f18))) (l18 : K.lookup f18 = some ⟨oc18, od18, .func (PySem.W.fnOf "_law_is_instruction" "_law_is_instruction" (defArgs (topS 24)) (defBody (topS 24)) (defScope (topS 24)) .none kV18 dc18 pm18 an18 cd18 ct18), sl18⟩) (c18 : PySem.W.codeIn K cd18 "_law_is_instruction" = true) (k18 : PySem.W.keepIn K (.ref f18) = true)
    (a19 : PySem.W.nsIn K mainGlobals "_law_is_guest" = some (some (.ref f19))) (l19 : K.lookup f19 = some ⟨oc19, od19, .func (PySem.W.fnOf "_law_is_guest" "_law_is_guest" (defArgs (topS 25)) (defBody (topS 25)) (defScope (topS 25)) .none kV19 dc19 pm19 an19 cd19 ct19), sl19⟩) (c19 : PySem.W.codeIn K cd19 "_law_is_guest" = true) (k19 : PySem.W.keepIn K (.ref f19) = true)
    (a20 : PySem.W.nsIn K mainGlobals "_law_deeds" = some (some (.ref f20))) (l20 : K.lookup f20 = some ⟨oc20, od20, .func (PySem.W.fnOf "_law_deeds" "_law_deeds" (defArgs (topS 26)) (defBody (topS 26)) (defScope (topS 26)) .none kV20 dc20 pm20 an20 cd20 ct20), sl20⟩) (c20 : PySem.W.codeIn K cd20 "_law_deeds" = true) (k20 : PySem.W.keepIn K (.ref f20) = true)
    (a21 : PySem.W.nsIn K mainGlobals "_law_is_caller" = some (some (.ref f21))) (l21 : K.lookup f21 = some ⟨oc21, od21, .func (PySem.W.fnOf "_law_is_caller" "_law_is_caller" (defArgs (topS 27)) (defBody (topS 27)) (defScope (topS 27)) .none kV21 dc21 pm21 an21 cd21 ct21), sl21⟩) (c21 : PySem.W.codeIn K cd21 "_law_is_caller" = true) (k21 : PySem.W.keepIn K (.ref f21) = true)
    (a22 : PySem.W.nsIn K mainGlobals "_law_is_listener" = some (some (.ref f22))) (l22 : K.lookup f22 = some ⟨oc22, od22, .func (PySem.W.fnOf "_law_is_listener" "_law_is_listener" (defArgs (topS 28)) (defBody (topS 28)) (defScope (topS 28)) .none kV22 dc22 pm22 an22 cd22 ct22), sl22⟩) (c22 : PySem.W.codeIn K cd22 "_law_is_listener" = true) (k22 : PySem.W.keepIn K (.ref f22) = true)
    (a23 : PySem.W.nsIn K mainGlobals "law" = some (some (.ref f23))) (l23 : K.lookup f23 = some ⟨oc23, od23, .func (PySem.W.fnOf "law" "law" (defArgs (topS 29)) (defBody (topS 29)) (defScope (topS 29)) .none kV23 dc23 pm23 an23 cd23 ct23), sl23⟩) (c23 : PySem.W.codeIn K cd23 "law" = true) (k23 : PySem.W.keepIn K (.ref f23) = true)
    (z0 : PySem.W.nsIn K mainGlobals "len" = some none)
    (z1 : PySem.W.nsIn K mainGlobals "abs" = some none)
    (z2 : PySem.W.nsIn K mainGlobals "int" = some none)
    (z3 : PySem.W.nsIn K mainGlobals "str" = some none)
    (z4 : PySem.W.nsIn K mainGlobals "list" = some none)
    (z5 : PySem.W.nsIn K mainGlobals "tuple" = some none)
    (z6 : PySem.W.nsIn K mainGlobals "max" = some none)
    (z7 : PySem.W.nsIn K mainGlobals "min" = some none)
    (z8 : PySem.W.nsIn K mainGlobals "sum" = some none)
    (z9 : PySem.W.nsIn K mainGlobals "sorted" = some none)
    (z10 : PySem.W.nsIn K mainGlobals "repr" = some none)
    (z11 : PySem.W.nsIn K mainGlobals "all" = some none)
    (z12 : PySem.W.nsIn K mainGlobals "range" = some none)
    (z13 : PySem.W.nsIn K mainGlobals "isinstance" = some none)
    (z14 : PySem.W.nsIn K mainGlobals "bool" = some none)
    (z15 : PySem.W.nsIn K mainGlobals "dict" = some none)
    {t0 : Tok} (gc0 : PySem.W.nsIn K mainGlobals "PAGE" = some (some (.int (16) t0)))
    {t1 : Tok} (gc1 : PySem.W.nsIn K mainGlobals "LOADED" = some (some (.int (2) t1)))
    {t2 : Tok} (gc2 : PySem.W.nsIn K mainGlobals "FIRST" = some (some (.int (3) t2)))
    {t3 : Tok} (gc3 : PySem.W.nsIn K mainGlobals "SECOND" = some (some (.int (4) t3)))
    : Top prg ds K mg := by
  have F0 := fun_mk (st := topS 5) l0 c0 k0
  have b0 := F0.binds (ps := []) fun _ _ _ _ _ _ us hl => match us, hl with | [], _ => rfl
  have F1 := fun_mk (st := topS 6) l1 c1 k1
  have b1 := F1.binds (ps := ["many"]) fun _ _ _ _ _ _ us hl => match us, hl with | [_], _ => rfl
  have F2 := fun_mk (st := topS 7) l2 c2 k2
  have b2 := F2.binds (ps := ["many", "stride"]) fun _ _ _ _ _ _ us hl => match us, hl with | [_, _], _ => rfl
  have F3 := fun_mk (st := topS 8) l3 c3 k3
  have b3 := F3.binds (ps := ["at", "many"]) fun _ _ _ _ _ _ us hl => match us, hl with | [_, _], _ => rfl
  have F4 := fun_mk (st := topS 10) l4 c4 k4
  have b4 := F4.binds (ps := ["script", "many"]) fun _ _ _ _ _ _ us hl => match us, hl with | [_, _], _ => rfl
  have F5 := fun_mk (st := topS 11) l5 c5 k5
  have b5 := F5.binds (ps := ["w", "many"]) fun _ _ _ _ _ _ us hl => match us, hl with | [_, _], _ => rfl
  have F6 := fun_mk (st := topS 12) l6 c6 k6
  have b6 := F6.binds (ps := ["w", "rows"]) fun _ _ _ _ _ _ us hl => match us, hl with | [_, _], _ => rfl
  have F7 := fun_mk (st := topS 13) l7 c7 k7
  have b7 := F7.binds (ps := ["w"]) fun _ _ _ _ _ _ us hl => match us, hl with | [_], _ => rfl
  have F8 := fun_mk (st := topS 14) l8 c8 k8
  have b8 := F8.binds (ps := []) fun _ _ _ _ _ _ us hl => match us, hl with | [], _ => rfl
  have F9 := fun_mk (st := topS 15) l9 c9 k9
  have b9 := F9.binds (ps := ["sign", "a", "b"]) fun _ _ _ _ _ _ us hl => match us, hl with | [_, _, _], _ => rfl
  have F10 := fun_mk (st := topS 16) l10 c10 k10
  have b10 := F10.binds (ps := ["kind"]) fun _ _ _ _ _ _ us hl => match us, hl with | [_], _ => rfl
  have F11 := fun_mk (st := topS 17) l11 c11 k11
  have b11 := F11.binds (ps := ["row"]) fun _ _ _ _ _ _ us hl => match us, hl with | [_], _ => rfl
  have F12 := fun_mk (st := topS 18) l12 c12 k12
  have b12 := F12.binds (ps := ["guest", "answers"]) fun _ _ _ _ _ _ us hl => match us, hl with | [_, _], _ => rfl
  have F13 := fun_mk (st := topS 19) l13 c13 k13
  have b13 := F13.binds (ps := ["m", "row"]) fun _ _ _ _ _ _ us hl => match us, hl with | [_, _], _ => rfl
  have F14 := fun_mk (st := topS 20) l14 c14 k14
  have b14 := F14.binds (ps := ["m", "row"]) fun _ _ _ _ _ _ us hl => match us, hl with | [_, _], _ => rfl
  have F15 := fun_mk (st := topS 21) l15 c15 k15
  have b15 := F15.binds (ps := ["m", "row"]) fun _ _ _ _ _ _ us hl => match us, hl with | [_, _], _ => rfl
  have F16 := fun_mk (st := topS 22) l16 c16 k16
  have b16 := F16.binds (ps := ["guest", "answers", "steps"]) fun _ _ _ _ _ _ us hl => match us, hl with | [_, _, _], _ => rfl
  have F17 := fun_mk (st := topS 23) l17 c17 k17
  have b17 := F17.binds (ps := ["thing", "most"]) fun _ _ _ _ _ _ us hl => match us, hl with | [_, _], _ => rfl
  have F18 := fun_mk (st := topS 24) l18 c18 k18
  have b18 := F18.binds (ps := ["row"]) fun _ _ _ _ _ _ us hl => match us, hl with | [_], _ => rfl
  have F19 := fun_mk (st := topS 25) l19 c19 k19
  have b19 := F19.binds (ps := ["thing"]) fun _ _ _ _ _ _ us hl => match us, hl with | [_], _ => rfl
  have F20 := fun_mk (st := topS 26) l20 c20 k20
  have b20 := F20.binds (ps := ["guest", "m"]) fun _ _ _ _ _ _ us hl => match us, hl with | [_, _], _ => rfl
  have F21 := fun_mk (st := topS 27) l21 c21 k21
  have b21 := F21.binds (ps := ["guest", "many", "stride"]) fun _ _ _ _ _ _ us hl => match us, hl with | [_, _, _], _ => rfl
  have F22 := fun_mk (st := topS 28) l22 c22 k22
  have b22 := F22.binds (ps := ["w", "guest", "at", "many"]) fun _ _ _ _ _ _ us hl => match us, hl with | [_, _, _, _], _ => rfl
  have F23 := fun_mk (st := topS 29) l23 c23 k23
  have b23 := F23.binds (ps := ["script"]) fun _ _ _ _ _ _ us hl => match us, hl with | [_], _ => rfl
  refine ⟨fun i d hd => ?_, fun x hx => ?_, fun x w hx => ?_, fun _ _ => rfl⟩
  · match i, hd with
    | 0, rfl => exact ⟨f0, _, PySem.W.mg_of X G a0, F0, b0⟩
    | 1, rfl => exact ⟨f1, _, PySem.W.mg_of X G a1, F1, b1⟩
    | 2, rfl => exact ⟨f2, _, PySem.W.mg_of X G a2, F2, b2⟩
    | 3, rfl => exact ⟨f3, _, PySem.W.mg_of X G a3, F3, b3⟩
    | 4, rfl => exact ⟨f4, _, PySem.W.mg_of X G a4, F4, b4⟩
    | 5, rfl => exact ⟨f5, _, PySem.W.mg_of X G a5, F5, b5⟩
    | 6, rfl => exact ⟨f6, _, PySem.W.mg_of X G a6, F6, b6⟩
    | 7, rfl => exact ⟨f7, _, PySem.W.mg_of X G a7, F7, b7⟩
    | 8, rfl => exact ⟨f8, _, PySem.W.mg_of X G a8, F8, b8⟩
    | 9, rfl => exact ⟨f9, _, PySem.W.mg_of X G a9, F9, b9⟩
    | 10, rfl => exact ⟨f10, _, PySem.W.mg_of X G a10, F10, b10⟩
    | 11, rfl => exact ⟨f11, _, PySem.W.mg_of X G a11, F11, b11⟩
    | 12, rfl => exact ⟨f12, _, PySem.W.mg_of X G a12, F12, b12⟩
    | 13, rfl => exact ⟨f13, _, PySem.W.mg_of X G a13, F13, b13⟩
    | 14, rfl => exact ⟨f14, _, PySem.W.mg_of X G a14, F14, b14⟩
    | 15, rfl => exact ⟨f15, _, PySem.W.mg_of X G a15, F15, b15⟩
    | 16, rfl => exact ⟨f16, _, PySem.W.mg_of X G a16, F16, b16⟩
    | 17, rfl => exact ⟨f17, _, PySem.W.mg_of X G a17, F17, b17⟩
    | 18, rfl => exact ⟨f18, _, PySem.W.mg_of X G a18, F18, b18⟩
    | 19, rfl => exact ⟨f19, _, PySem.W.mg_of X G a19, F19, b19⟩
    | 20, rfl => exact ⟨f20, _, PySem.W.mg_of X G a20, F20, b20⟩
    | 21, rfl => exact ⟨f21, _, PySem.W.mg_of X G a21, F21, b21⟩
    | 22, rfl => exact ⟨f22, _, PySem.W.mg_of X G a22, F22, b22⟩
    | 23, rfl => exact ⟨f23, _, PySem.W.mg_of X G a23, F23, b23⟩
    | _ + 24, hd => simp [ds] at hd
  · simp only [bltNames, List.mem_cons, List.not_mem_nil, or_false] at hx
    rcases hx with rfl | rfl | rfl | rfl | rfl | rfl | rfl | rfl | rfl | rfl | rfl | rfl | rfl | rfl | rfl | rfl
    · exact PySem.W.mg_none_of X G z0
    · exact PySem.W.mg_none_of X G z1
    · exact PySem.W.mg_none_of X G z2
    · exact PySem.W.mg_none_of X G z3
    · exact PySem.W.mg_none_of X G z4
    · exact PySem.W.mg_none_of X G z5
    · exact PySem.W.mg_none_of X G z6
    · exact PySem.W.mg_none_of X G z7
    · exact PySem.W.mg_none_of X G z8
    · exact PySem.W.mg_none_of X G z9
    · exact PySem.W.mg_none_of X G z10
    · exact PySem.W.mg_none_of X G z11
    · exact PySem.W.mg_none_of X G z12
    · exact PySem.W.mg_none_of X G z13
    · exact PySem.W.mg_none_of X G z14
    · exact PySem.W.mg_none_of X G z15
  · change fget globs x = some w at hx
    simp only [globs, fget] at hx
    split at hx
    · rename_i e; cases hx; subst e
      exact ⟨_, .int (16), PySem.W.mg_of X G gc0, ⟨_, rfl⟩, fun _ _ => vr_int.mpr rfl⟩
    split at hx
    · rename_i e; cases hx; subst e
      exact ⟨_, .int (2), PySem.W.mg_of X G gc1, ⟨_, rfl⟩, fun _ _ => vr_int.mpr rfl⟩
    split at hx
    · rename_i e; cases hx; subst e
      exact ⟨_, .int (3), PySem.W.mg_of X G gc2, ⟨_, rfl⟩, fun _ _ => vr_int.mpr rfl⟩
    split at hx
    · rename_i e; cases hx; subst e
      exact ⟨_, .int (4), PySem.W.mg_of X G gc3, ⟨_, rfl⟩, fun _ _ => vr_int.mpr rfl⟩
    cases hx
end Nw
open PySem PySem.W PyProof.Rows
set_option maxRecDepth 100000 in
set_option maxHeartbeats 0 in
theorem PySem.Challenge.cw_nowhisper_k77_callers_and_listeners_holds : PySem.Challenge.rw_nowhisper_k77_callers_and_listeners.Holds := by
  w_on; o_law; k_head; (case hw => w_witness2)
  k_fill
  refine Nw.law_walk (l := PySem.Challenge.rw_nowhisper_k77_callers_and_listeners) (P := Nw.prg) (ds := Nw.ds) (n := 6) (i := Nw.f_law) (D := ⟨"law", Nw.topS 29, ["script", "w", "many", "stride", "at", "m"], ["script"]⟩) rfl rfl (fun w h Y => PySem.W.kIn_of Y) ⟨rfl, by decide, by decide⟩ Nw.ds_ok rfl rfl rfl Nw.law_true ?T ?B
  case B =>
    intro w fd f F s u
    obtain ⟨_, _, _, _, _, _, _, _, _, rfl, _, _⟩ := F.ex
    exact .of_eq rfl
  case T =>
    intro w mg h KX G
    refine' Nw.top_mk KX G ?a0 ?l0 ?c0 ?k0 ?a1 ?l1 ?c1 ?k1 ?a2 ?l2 ?c2 ?k2 ?a3 ?l3 ?c3 ?k3 ?a4 ?l4 ?c4 ?k4 ?a5 ?l5 ?c5 ?k5 ?a6 ?l6 ?c6 ?k6 ?a7 ?l7 ?c7 ?k7 ?a8 ?l8 ?c8 ?k8 ?a9 ?l9 ?c9 ?k9 ?a10 ?l10 ?c10 ?k10 ?a11 ?l11 ?c11 ?k11 ?a12 ?l12 ?c12 ?k12 ?a13 ?l13 ?c13 ?k13 ?a14 ?l14 ?c14 ?k14 ?a15 ?l15 ?c15 ?k15 ?a16 ?l16 ?c16 ?k16 ?a17 ?l17 ?c17 ?k17 ?a18 ?l18 ?c18 ?k18 ?a19 ?l19 ?c19 ?k19 ?a20 ?l20 ?c20 ?k20 ?a21 ?l21 ?c21 ?k21 ?a22 ?l22 ?c22 ?k22 ?a23 ?l23 ?c23 ?k23 ?z0 ?z1 ?z2 ?z3 ?z4 ?z5 ?z6 ?z7 ?z8 ?z9 ?z10 ?z11 ?z12 ?z13 ?z14 ?z15 ?gc0 ?gc1 ?gc2 ?gc3
    (case a0 => k_is)
    (case l0 => k_is)
    (case c0 => k_is)
    (case k0 => k_is)
    (case a1 => k_is)
    (case l1 => k_is)
    (case c1 => k_is)
    (case k1 => k_is)
    (case a2 => k_is)
    (case l2 => k_is)
    (case c2 => k_is)
    (case k2 => k_is)
    (case a3 => k_is)
    (case l3 => k_is)
    (case c3 => k_is)
    (case k3 => k_is)
    (case a4 => k_is)
    (case l4 => k_is)
    (case c4 => k_is)
    (case k4 => k_is)
    (case a5 => k_is)
    (case l5 => k_is)
    (case c5 => k_is)
    (case k5 => k_is)
    (case a6 => k_is)
    (case l6 => k_is)
    (case c6 => k_is)
    (case k6 => k_is)
    (case a7 => k_is)
    (case l7 => k_is)
    (case c7 => k_is)
    (case k7 => k_is)
    (case a8 => k_is)
    (case l8 => k_is)
    (case c8 => k_is)
    (case k8 => k_is)
    (case a9 => k_is)
    (case l9 => k_is)
    (case c9 => k_is)
    (case k9 => k_is)
    (case a10 => k_is)
    (case l10 => k_is)
    (case c10 => k_is)
    (case k10 => k_is)
    (case a11 => k_is)
    (case l11 => k_is)
    (case c11 => k_is)
    (case k11 => k_is)
    (case a12 => k_is)
    (case l12 => k_is)
    (case c12 => k_is)
    (case k12 => k_is)
    (case a13 => k_is)
    (case l13 => k_is)
    (case c13 => k_is)
    (case k13 => k_is)
    (case a14 => k_is)
    (case l14 => k_is)
    (case c14 => k_is)
    (case k14 => k_is)
    (case a15 => k_is)
    (case l15 => k_is)
    (case c15 => k_is)
    (case k15 => k_is)
    (case a16 => k_is)
    (case l16 => k_is)
    (case c16 => k_is)
    (case k16 => k_is)
    (case a17 => k_is)
    (case l17 => k_is)
    (case c17 => k_is)
    (case k17 => k_is)
    (case a18 => k_is)
    (case l18 => k_is)
    (case c18 => k_is)
    (case k18 => k_is)
    (case a19 => k_is)
    (case l19 => k_is)
    (case c19 => k_is)
    (case k19 => k_is)
    (case a20 => k_is)
    (case l20 => k_is)
    (case c20 => k_is)
    (case k20 => k_is)
    (case a21 => k_is)
    (case l21 => k_is)
    (case c21 => k_is)
    (case k21 => k_is)
    (case a22 => k_is)
    (case l22 => k_is)
    (case c22 => k_is)
    (case k22 => k_is)
    (case a23 => k_is)
    (case l23 => k_is)
    (case c23 => k_is)
    (case k23 => k_is)
    (case z0 => k_is)
    (case z1 => k_is)
    (case z2 => k_is)
    (case z3 => k_is)
    (case z4 => k_is)
    (case z5 => k_is)
    (case z6 => k_is)
    (case z7 => k_is)
    (case z8 => k_is)
    (case z9 => k_is)
    (case z10 => k_is)
    (case z11 => k_is)
    (case z12 => k_is)
    (case z13 => k_is)
    (case z14 => k_is)
    (case z15 => k_is)
    (case gc0 => k_is)
    (case gc1 => k_is)
    (case gc2 => k_is)
    (case gc3 => k_is)
#print axioms PySem.Challenge.cw_nowhisper_k77_callers_and_listeners_holds

