import PyProof.Rows.All
import PySem.PyData
import Wide.All
import OpenK.AllK
import Wide.FinOn
import HandS.ForMost
import HandS.Deep
import HandS.TupAny
import HandS.Defaults
import HandS.Style
import HandS.Evl
import KE.KDictKeyed
import KE.SortData
import HandS.SortKw
import KE.DataMinMax
import HandS.DictComp
import HandS.DictTup
import KE.KDictPairs
import PyProof.TupleOfSeq
import PySem.Challenge.RW_skypasses_k41_whole_lists_are_bounds
set_option Elab.async false
set_option linter.all false
set_option maxRecDepth 100000
set_option maxHeartbeats 4000000
set_option autoImplicit false
/-! SkSem: the pure semantic functions (data in, data out) of the constructs that the program uses. No heap here. -/
namespace Sk
open PySem

abbrev D := PyData
abbrev Rho := List (Option D)
/-- a slot: nothing known; data that is not changed any more; a list or dict that this def alone holds and changes -/
inductive Sl where
  | no
  | im (d : D)
  | mu (d : D)
abbrev Gam := List Sl
def Sl.vI : Sl → Option D
  | .im d => some d
  | _ => none
def Sl.vA : Sl → Option D
  | .im d => some d
  | .mu d => some d
  | .no => none
def vI (g : Gam) : Rho := g.map Sl.vI
def vA (g : Gam) : Rho := g.map Sl.vA
def LIM : Nat := 16777216

/-! ### data: shapes, equality, truth -/
def all2 (p : D → D → Bool) : List D → List D → Bool
  | [], [] => true
  | x :: xs, y :: ys => p x y && all2 p xs ys
  | _, _ => false
def deq : Nat → D → D → Bool
  | _, .int a, .int b => decide (a = b)
  | _, .str a, .str b => decide (a = b)
  | n + 1, .list a, .list b => all2 (deq n) a b
  | n + 1, .tuple a, .tuple b => all2 (deq n) a b
  | _, _, _ => false
/-- dInts, texts, lists, tuples, to a depth -/
def plain : Nat → D → Bool
  | _, .int _ => true
  | _, .str x => decide (x = "take") || decide (x = "leave")
  | n + 1, .list a => a.all (plain n)
  | n + 1, .tuple a => a.all (plain n)
  | _, _ => false
/-- dInts and tuples, to a depth -/
def keyish : Nat → D → Bool
  | _, .int _ => true
  | n + 1, .tuple a => a.all (keyish n)
  | _, _ => false
/-- a tuple that may be a dict's key -/
def isKey : D → Bool
  | .tuple a => a.all (keyish 7)
  | _ => false
def flat : D → Bool
  | .int _ => true
  | .bool _ => true
  | .str _ => true
  | .none => true
  | _ => false
/-- no dict -/
def nd : D → Bool
  | .dict _ => false
  | _ => true
def isInt : D → Bool
  | .int _ => true
  | _ => false
def isInts : D → Bool
  | .tuple a => a.all isInt
  | _ => false
/-- (int, int, int, dInts, dInts) -/
def isState : D → Bool
  | .tuple [.int _, .int _, .int _, .tuple a, .tuple b] => a.all isInt && b.all isInt
  | _ => false
def isRow : D → Bool
  | .tuple [s, .int _] => isState s
  | _ => false
/-- some ints -/
def isInts1 : D → Bool
  | .tuple (a :: b) => (a :: b).all isInt
  | _ => false
/-- tuples of ints, the first one empty or none -/
def isTups : List D → Bool
  | .tuple [] :: r => r.all isInts
  | xs => xs.all isInts1
/-- what sorted() is served for -/
def sortable (xs : List D) : Bool := xs.all isInt || isTups xs || xs.all isState || xs.all isRow
def truth : D → Option Bool
  | .bool b => some b
  | .list xs => some (!xs.isEmpty)
  | _ => none
def dInts : List D → Option (List Int)
  | [] => some []
  | .int i :: r => (dInts r).map (i :: ·)
  | _ :: _ => none
def dBools : List D → Option (List Bool)
  | [] => some []
  | .bool i :: r => (dBools r).map (i :: ·)
  | _ :: _ => none
/-- the place that i tells among n: from the front, or from the back -/
def ixN (n : Nat) (i : Int) : Option Nat :=
  if 0 ≤ i ∧ i < n then some i.toNat
  else if i < 0 ∧ 0 ≤ i + n then some (i + n).toNat
  else none
def atD (xs : List D) (i : Int) : Option D := (ixN xs.length i).bind fun j => xs[j]?

/-! ### operations on data -/
def oAdd : D → D → Option D
  | .int a, .int b => some (.int (a + b))
  | _, _ => none
def oSub : D → D → Option D
  | .int a, .int b => some (.int (a - b))
  | _, _ => none
def oMul : D → D → Option D
  | .int a, .int b => if (-(2 ^ 64) < a ∧ a < 2 ^ 64) ∨ (-(2 ^ 64) < b ∧ b < 2 ^ 64) then some (.int (a * b)) else none
  | _, _ => none
def oDiv : D → D → Option D
  | .int a, .int b => if 0 < b ∧ b < 1073741824 then some (.int (a / b)) else none
  | _, _ => none
def oMod : D → D → Option D
  | .int a, .int b => if 0 < b then some (.int (a % b)) else none
  | _, _ => none
def oPow : D → D → Option D
  | .int a, .int b => if 0 ≤ b ∧ b ≤ 1000000 ∧ a.natAbs < 2 ^ 64 then some (.int (a ^ b.toNat)) else none
  | _, _ => none
def oNeg : D → Option D
  | .int a => some (.int (-a))
  | _ => none
def oCatL : D → D → Option D
  | .list a, .list b => if a.length + b.length ≤ LIM then some (.list (a ++ b)) else none
  | _, _ => none
def oCatT : D → D → Option D
  | .tuple a, .tuple b => if a.length + b.length ≤ LIM then some (.tuple (a ++ b)) else none
  | _, _ => none
def oIx : D → D → Option D
  | .list xs, .int i => atD xs i
  | .tuple xs, .int i => atD xs i
  | _, _ => none
def cLt : D → D → Option Bool
  | .int a, .int b => some (decide (a < b))
  | _, _ => none
def cLe : D → D → Option Bool
  | .int a, .int b => some (decide (a ≤ b))
  | _, _ => none
def cGt : D → D → Option Bool
  | .int a, .int b => some (decide (b < a))
  | _, _ => none
def cGe : D → D → Option Bool
  | .int a, .int b => some (decide (b ≤ a))
  | _, _ => none
def cEq (x y : D) : Option Bool := if plain 8 x && plain 8 y then some (deq 8 x y) else none
def cNe (x y : D) : Option Bool := if plain 8 x && plain 8 y then some (!deq 8 x y) else none
/-- x in a list or tuple of dInts -/
def cIn : D → D → Option Bool
  | .int i, .list ys => (dInts ys).map fun ns => ns.contains i
  | .int i, .tuple ys => (dInts ys).map fun ns => ns.contains i
  | _, _ => none
def cNi (x y : D) : Option Bool := (cIn x y).map (!·)
/-- x not in a list of data -/
def cNiD : D → D → Option Bool
  | x, .list ys => if plain 8 x && ys.all (plain 8) then some (!ys.any fun y => deq 8 y x) else none
  | _, _ => none
/-- is not True, of a bool -/
def cNotTrue : D → D → Option Bool
  | .bool a, .bool true => some (!a)
  | _, _ => none

/-! ### dicts -/
abbrev Kvs := List (D × D)
def kHas (m : Kvs) (k : D) : Bool := m.any fun p => deq 8 p.1 k
def kGet : Kvs → D → Option D
  | [], _ => none
  | (a, v) :: r, k => if deq 8 a k then some v else kGet r k
def kPut (m : Kvs) (k v : D) : Kvs := if kHas m k then m.map fun p => if deq 8 p.1 k then (p.1, v) else p else m ++ [(k, v)]
def cInD : D → D → Option Bool
  | k, .dict m => if isKey k then some (kHas m k) else none
  | _, _ => none
def cNiDd (x y : D) : Option Bool := (cInD x y).map (!·)
def oGet : D → D → Option D
  | .dict m, k => if isKey k then kGet m k else none
  | _, _ => none
def kPuts : Kvs → List D → Option Kvs
  | m, [] => some m
  | m, .tuple [k, v] :: r => if isKey k && flat v then kPuts (kPut m k v) r else none
  | _, _ :: _ => none

/-! ### calls of built-ins -/
def fLen : List D → Option D
  | [.list xs] => some (.int xs.length)
  | [.tuple xs] => some (.int xs.length)
  | _ => none
def fLenD : List D → Option D
  | [.dict m] => some (.int m.length)
  | _ => none
def fAbs : List D → Option D
  | [.int i] => some (.int (if i < 0 then -i else i))
  | _ => none
def fInt : List D → Option D
  | [.int i] => some (.int i)
  | _ => none
def fMax2 : List D → Option D
  | [.int i, .int j] => some (.int (if j > i then j else i))
  | _ => none
def fMin2 : List D → Option D
  | [.int i, .int j] => some (.int (if j < i then j else i))
  | _ => none
def fMax : List D → Option D
  | [.list xs] => (dInts xs).bind fun ns => match ns with
    | [] => none
    | x :: r => some (.int (r.foldl max x))
  | _ => none
def fMin : List D → Option D
  | [.list xs] => (dInts xs).bind fun ns => match ns with
    | [] => none
    | x :: r => some (.int (r.foldl min x))
  | _ => none
/-- min(xs, default=d) -/
def fMinD : List D → Option D
  | [.list xs, .int d] => (dInts xs).bind fun ns => match ns with
    | [] => some (.int d)
    | x :: r => some (.int (r.foldl min x))
  | _ => none
def fAll : List D → Option D
  | [.list xs] => (dBools xs).map fun bs => .bool (bs.all id)
  | _ => none
def fAny : List D → Option D
  | [.list xs] => (dBools xs).map fun bs => .bool (bs.any id)
  | _ => none
def fList : List D → Option D
  | [.list xs] => some (.list xs)
  | [.tuple xs] => some (.list xs)
  | _ => none
def fTuple : List D → Option D
  | [.list xs] => some (.tuple xs)
  | [.tuple xs] => some (.tuple xs)
  | _ => none
def fDict : List D → Option D
  | [.list xs] => (kPuts [] xs).map .dict
  | _ => none
def clipN (n d : Nat) : Option Int → Nat
  | none => d
  | some v => if v < 0 then (v + n).toNat else min v.toNat n
def cutD (xs : List D) (lo hi : Option Int) : List D := (xs.drop (clipN xs.length 0 lo)).take (clipN xs.length xs.length hi - clipN xs.length 0 lo)

section
variable (srt : List D → List D)
def fSorted : List D → Option D
  | [.list xs] => if sortable xs then some (.list (srt xs)) else none
  | _ => none
/-- sorted(t), t a tuple of ints -/
def fSortedT : List D → Option D
  | [.tuple xs] => if xs.all isInt then some (.list (srt xs)) else none
  | _ => none
/-- sorted(d) of a dict -/
def fSortedD : List D → Option D
  | [.dict m] => if (m.map (·.1)).all isState then some (.list (srt (m.map (·.1)))) else none
  | _ => none
/-- sorted(d.items()) -/
def fSortedI : List D → Option D
  | [.dict m] => if (m.map fun p => .tuple [p.1, p.2]).all isRow then some (.list (srt (m.map fun p => .tuple [p.1, p.2]))) else none
  | _ => none
end

/-! ### expressions -/
abbrev FE := Rho → Option D
abbrev FA := Rho → Option (List D)
abbrev FT := Rho → Option Bool
abbrev FO := Rho → Option (Option Int)
def eV (i : Nat) : FE := fun r => (r[i]?).bind id
def eC (d : D) : FE := fun _ => some d
def eB (g : D → D → Option D) (a b : FE) : FE := fun r => (a r).bind fun x => (b r).bind fun y => g x y
def eU (g : D → Option D) (a : FE) : FE := fun r => (a r).bind g
def aNil : FA := fun _ => some []
def aCons (a : FE) (b : FA) : FA := fun r => (a r).bind fun x => (b r).bind fun xs => some (x :: xs)
def aApp (a b : FA) : FA := fun r => (a r).bind fun x => (b r).bind fun y => some (x ++ y)
def eTup (a : FA) : FE := fun r => (a r).bind fun xs => if xs.all nd && decide (xs.length ≤ LIM) then some (.tuple xs) else none
def eLst (a : FA) : FE := fun r => (a r).bind fun xs => if xs.all nd && decide (xs.length ≤ LIM) then some (.list xs) else none
def eDict0 : FE := fun _ => some (.dict [])
def eF (F : List D → Option D) (a : FA) : FE := fun r => (a r).bind F
def oNo : FO := fun _ => some none
def oSome (a : FE) : FO := fun r => (a r).bind fun x => match x with
  | .int i => some (some i)
  | _ => none
def eCut (a : FE) (lo hi : FO) : FE := fun r => (a r).bind fun x => (lo r).bind fun l => (hi r).bind fun h => match x with
  | .list xs => some (.list (cutD xs l h))
  | _ => none
def tC (g : D → D → Option Bool) (a b : FE) : FT := fun r => (a r).bind fun x => (b r).bind fun y => g x y
def tCh (g g' : D → D → Option Bool) (a b c : FE) : FT := fun r => (a r).bind fun x => (b r).bind fun y => (g x y).bind fun k => if k then (c r).bind fun z => g' y z else some false
def tTr (a : FE) : FT := fun r => (a r).bind truth
def tAnd (a b : FT) : FT := fun r => (a r).bind fun k => if k then b r else some false
def tOr (a b : FT) : FT := fun r => (a r).bind fun k => if k then some true else b r
def tNot (a : FT) : FT := fun r => (a r).map (!·)
def tTrue : FT := fun _ => some true
/-- a test as a value -/
def eT (t : FT) : FE := fun r => (t r).map .bool
/-- a or b, a a bool -/
def eOr (a : FE) (b : FE) : FE := fun r => (a r).bind fun x => match x with
  | .bool true => some (.bool true)
  | .bool false => b r
  | _ => none

/-! ### what is walked -/
abbrev FI := Rho → Option (List D)
def iL (a : FE) : FI := fun r => (a r).bind fun x => match x with
  | .list xs => some xs
  | _ => none
def iT (a : FE) : FI := fun r => (a r).bind fun x => match x with
  | .tuple xs => some xs
  | _ => none
def iR (a : FE) : FI := fun r => (a r).bind fun x => match x with
  | .int n => if -4611686018427387904 ≤ n ∧ n.toNat ≤ LIM then some ((List.range n.toNat).map fun (k : Nat) => .int (k : Int)) else none
  | _ => none
def iRev (a : FE) : FI := fun r => (a r).bind fun x => match x with
  | .list xs => some xs.reverse
  | _ => none

/-! ### comprehensions -/
/-- the targets: places that take the item (one), or its parts -/
inductive Tg where
  | n (i : Nat)
  | t (is : List Nat)
def Tg.ix : Tg → List Nat
  | .n i => [i]
  | .t is => is
def putsE : List Nat → List D → Rho → Option Rho
  | [], [], r => some r
  | i :: is, d :: ds, r => putsE is ds (r.set i (some d))
  | _, _, _ => none
def Tg.env : Tg → D → Rho → Option Rho
  | .n i, d, r => some (r.set i (some d))
  | .t is, .tuple ds, r => putsE is ds r
  | .t _, _, _ => none
def lcGo (tg : Tg) (tt : FT) (el : FE) (r : Rho) : List D → Option (List D)
  | [] => some []
  | x :: xs => (tg.env x r).bind fun r' => (tt r').bind fun b => if b then (el r').bind fun y => if nd y then (lcGo tg tt el r xs).bind fun ys => some (y :: ys) else none else lcGo tg tt el r xs
def eLc (src : FI) (tg : Tg) (tt : FT) (el : FE) : FE := fun r => (src r).bind fun xs => if xs.length ≤ LIM then (lcGo tg tt el r xs).map .list else none
/-- {k: v for x in xs}, k and v names or constants -/
def dcGo (tg : Tg) (kx vx : FE) (r : Rho) : Kvs → List D → Option Kvs
  | m, [] => some m
  | m, x :: xs => (tg.env x r).bind fun r' => (kx r').bind fun k => (vx r').bind fun v => if isKey k && flat v then dcGo tg kx vx r (kPut m k v) xs else none
def eDc (src : FI) (tg : Tg) (kx vx : FE) : FE := fun r => (src r).bind fun xs => if xs.length ≤ LIM then (dcGo tg kx vx r [] xs).map .dict else none

/-! ### statements -/
inductive Out where
  | nx (g : Gam)
  | rt (d : D)
  | bk (g : Gam)
abbrev SE := Gam → Option Out
def sNil : SE := fun g => some (.nx g)
def sSeq (a b : SE) : SE := fun g => (a g).bind fun o => match o with
  | .nx g' => b g'
  | o => some o
def putsG : List Nat → List D → Gam → Option Gam
  | [], [], g => some g
  | i :: is, d :: ds, g => putsG is ds (g.set i (.im d))
  | _, _, _ => none
def Tg.gam : Tg → D → Gam → Option Gam
  | .n i, d, g => some (g.set i (.im d))
  | .t is, .tuple ds, g => putsG is ds g
  | .t _, _, _ => none
/-- target = e -/
def sAsg (tg : Tg) (f : FE) : SE := fun g => (f (vI g)).bind fun d => (tg.gam d g).map .nx
/-- x = e, e an int or the like, of all that is held -/
def sAsgF (i : Nat) (f : FE) : SE := fun g => (f (vA g)).bind fun d => if flat d then some (.nx (g.set i (.im d))) else none
/-- x = e, e new: this def may change it -/
def sNew (i : Nat) (f : FE) : SE := fun g => (f (vI g)).bind fun d => some (.nx (g.set i (.mu d)))
/-- x = {..}, new, of all that is held -/
def sNewD (i : Nat) (f : FE) : SE := fun g => (f (vA g)).bind fun d => match d with
  | .dict m => some (.nx (g.set i (.mu (.dict m))))
  | _ => none
def sFz (i : Nat) : SE := fun g => match g[i]? with
  | some (.mu d) => some (.nx (g.set i (.im d)))
  | _ => some (.nx g)
/-- x, y = e1, e2 -/
def sPar (i j : Nat) (a b : FE) : SE := fun g => (a (vI g)).bind fun x => (b (vI g)).bind fun y => some (.nx ((g.set i (.im x)).set j (.im y)))
def sRet (f : FE) : SE := fun g => (f (vA g)).map .rt
def sRetN (f : FE) : SE := fun g => (f (vI g)).map .rt
def sIf (t : FT) (a b : SE) : SE := fun g => (t (vA g)).bind fun k => if k then a g else b g
def sBrk : SE := fun g => some (.bk g)
def forGo (tg : Tg) (body : SE) : List D → Gam → Option Out
  | [], g => some (.nx g)
  | x :: xs, g => (tg.gam x g).bind fun g' => (body g').bind fun o => match o with
    | .nx g'' => forGo tg body xs g''
    | .bk g'' => some (.nx g'')
    | .rt d => some (.rt d)
def sFor (src : FI) (tg : Tg) (body : SE) : SE := fun g => (src (vI g)).bind fun xs => forGo tg body xs g
def whGo (t : FT) (body : SE) : Nat → Gam → Option Out
  | 0, _ => none
  | n + 1, g => (t (vA g)).bind fun k => if k then (body g).bind fun o => match o with
      | .nx g'' => whGo t body n g''
      | .bk g'' => some (.nx g'')
      | .rt d => some (.rt d)
    else some (.nx g)
/-- x += e -/
def sAug (i : Nat) (g : D → D → Option D) (f : FE) : SE := fun s => (eV i (vI s)).bind fun x => (f (vI s)).bind fun y => (g x y).bind fun z => some (.nx (s.set i (.im z)))
/-- x.append(e) -/
def sApp (i : Nat) (f : FE) : SE := fun g => match g[i]? with
  | some (.mu (.list ds)) => (f (vI g)).bind fun d => if ds.length < LIM ∧ nd d = true then some (.nx (g.set i (.mu (.list (ds ++ [d]))))) else none
  | _ => none
/-- y = x.pop() -/
def sPop (j i : Nat) : SE := fun g => match g[i]? with
  | some (.mu (.list ds)) => (ds[ds.length - 1]?).bind fun d => some (.nx ((g.set i (.mu (.list ds.dropLast))).set j (.im d)))
  | _ => none
/-- x[e] = v, x a list of ours, v flat -/
def sStL (i : Nat) (fi fv : FE) : SE := fun g => match g[i]? with
  | some (.mu (.list ds)) => (fv (vA g)).bind fun v => (fi (vA g)).bind fun k => match k with
    | .int k => (ixN ds.length k).bind fun j => if flat v then some (.nx (g.set i (.mu (.list (ds.set j v))))) else none
    | _ => none
  | _ => none
/-- x[y] = v, x a dict of ours, y a name, v flat -/
def sStD (i j : Nat) (fv : FE) : SE := fun g => match g[i]? with
  | some (.mu (.dict m)) => (fv (vA g)).bind fun v => (eV j (vI g)).bind fun k => if isKey k && flat v && decide (m.length < LIM) then some (.nx (g.set i (.mu (.dict (kPut m k v))))) else none
  | _ => none

/-- a def: m parameters, n names, the parameters first -/
def runDef (m n : Nat) (body : SE) : List D → Option D := fun ds => if ds.length = m then match body (ds.map Sl.im ++ List.replicate (n - ds.length) Sl.no) with
  | some (.rt d) => some d
  | _ => none
  else none
end Sk
/-! SkLay1: data over the hand layer's heap: what stands for what, what grows; the readings of expressions by their semantic functions -/
namespace Sk
open PySem PySem.Spec PyProof.Rows L2 Evl

/-! ### heaps that grow -/
end Sk
namespace Evl
open PySem L2
theorem Ex.back {H H' : Hp} (e : Ex H H') {p : Addr} (h : H' p = none) : H p = none := by
  cases q : H p with
  | none => rfl
  | some o => rw [e p o q] at h; cases h
theorem Ex.up {H : Hp} {p : Addr} {o : HO} (h : H p = none) : Ex H (upd H p o) := fun a u e => by
  rw [upd_ne (ne_of_none e h)]
  exact e
theorem Ex.upd {B H : Hp} {p : Addr} {o : HO} (e : Ex B H) (h : B p = none) : Ex B (upd H p o) := fun a u q => by
  rw [upd_ne (ne_of_none q h)]
  exact e a u q
theorem Ex.upd2 {B H : Hp} {p : Addr} {o : HO} (e : Ex B H) : Ex (L2.upd B p o) (L2.upd H p o) := fun a u q => by
  unfold L2.upd at q ⊢
  split
  · rename_i h
    rw [if_pos h] at q
    exact q
  · rename_i h
    rw [if_neg h] at q
    exact e a u q
end Evl
namespace Sk
open PySem PySem.Spec PyProof.Rows L2 Evl
/-- B: what will not change any more; H: all that is tracked -/
structure Grow (B H B' H' : Hp) : Prop where
  b : Ex B B'
  i : Ex B' H'
  h : Ex H H'
  n : ∀ a, B a = none → B' a ≠ none → H a = none
theorem Grow.refl {B H : Hp} (i : Ex B H) : Grow B H B H := ⟨Ex.refl _, i, Ex.refl _, fun a h1 h2 => absurd h1 h2⟩
theorem Grow.trans {B H B1 H1 B2 H2 : Hp} (x : Grow B H B1 H1) (y : Grow B1 H1 B2 H2) : Grow B H B2 H2 :=
  ⟨x.b.trans y.b, y.i, x.h.trans y.h, fun a h1 h2 => by
    by_cases h3 : B1 a = none
    · exact x.h.back (y.n a h3 h2)
    · exact x.n a h1 h3⟩
theorem Grow.new {B H : Hp} {p : Addr} {o : HO} (i : Ex B H) (h : H p = none) : Grow B H (upd B p o) (upd H p o) :=
  ⟨Ex.up (i.back h), i.upd2, Ex.up h, fun a h1 h2 => by
    by_cases e : a = p
    · subst e; exact h
    · rw [upd_ne e] at h2; exact absurd h1 h2⟩
/-- a new object that stays open to change -/
theorem Grow.open {B H : Hp} {p : Addr} {o : HO} (i : Ex B H) (h : H p = none) : Grow B H B (upd H p o) :=
  ⟨Ex.refl _, i.upd (i.back h), Ex.up h, fun a h1 h2 => absurd h1 h2⟩

/-! ### what stands for data -/
structure Kit where
  K : PySem.W.Frag
  P : Program
  w : World
abbrev kit (X : Cx) : Kit := ⟨X.K, X.prog, X.w⟩
abbrev Ent := NestedKey × Addr × Value
/-- the dict at p with these entries -/
def dOb (T : Kit) (p : Addr) (xs : List Ent) : HO := .ext fun h => ∃ o es ep, h.get? p = some o ∧ o.ExactDict ∧ o.data = .dict es ep ∧ es.toList = xs.map (entryOfKey (nestedKind T.P T.w))
structure Ents (T : Kit) (B : Hp) (m : Kvs) (xs : List Ent) : Prop where
  nd : (xs.map (·.1)).Nodup
  each : Paired (fun (p : D × D) (x : Ent) => (p.1 = x.1.data ∧ isKey p.1 = true ∧ Dp T.K B (.ref x.2.1) p.1) ∧ flat p.2 = true ∧ ∃ v, RelV v x.2.2 ∧ Dp T.K B v p.2) m xs
  sz : xs.length ≤ sizeLine
/-- o is the dict at p -/
def DicO (T : Kit) (B : Hp) (p : Addr) (m : Kvs) (o : Option HO) : Prop := ∃ xs, o = some (dOb T p xs) ∧ (p == sysModules) = false ∧ Ents T B m xs
/-- v stands for the data d -/
def Rp (T : Kit) (B : Hp) (v : V) (d : D) : Prop := Dp T.K B v d ∨ ∃ m p, d = .dict m ∧ v = .ref p ∧ DicO T B p m (B p)
abbrev Rps (T : Kit) (B : Hp) : List V → List D → Prop := Paired (Rp T B)

end Sk
namespace L2
open PySem Sk Evl
mutual
theorem Dp.mono {K : PySem.W.Frag} {H H' : Hp} (e : Ex H H') : ∀ {v : V} {d : D}, Dp K H v d → Dp K H' v d
  | _, _, .non => .non
  | _, _, .bl b => .bl b
  | _, _, .int i => .int i
  | _, _, .str x => .str x
  | _, _, .lst h1 h2 => .lst (ex_l e h1) (DpAll.mono e h2)
  | _, _, .tup h1 h2 => .tup (ex_t e h1) (DpAll.mono e h2)
theorem DpAll.mono {K : PySem.W.Frag} {H H' : Hp} (e : Ex H H') : ∀ {vs : List V} {ds : List D}, DpAll K H vs ds → DpAll K H' vs ds
  | _, _, .nil => .nil
  | _, _, .cons h1 h2 => .cons (Dp.mono e h1) (DpAll.mono e h2)
end
end L2
namespace Sk
open PySem PySem.Spec PyProof.Rows L2 Evl
theorem Ents.mono {T : Kit} {B B' : Hp} {m : Kvs} {xs : List Ent} (e : Ex B B') (h : Ents T B m xs) : Ents T B' m xs :=
  ⟨h.nd, Paired.mapP h.each fun p x ⟨⟨h1, h2, h3⟩, h4, v, h5, h6⟩ => ⟨⟨h1, h2, h3.mono e⟩, h4, v, h5, h6.mono e⟩, h.sz⟩
theorem Rp.mono {T : Kit} {B B' : Hp} {v : V} {d : D} (e : Ex B B') (h : Rp T B v d) : Rp T B' v d := by
  rcases h with h | ⟨m, p, h1, h2, xs, h3, h4, h5⟩
  · exact .inl (h.mono e)
  · exact .inr ⟨m, p, h1, h2, xs, e _ _ h3, h4, h5.mono e⟩
theorem Rps.mono {T : Kit} {B B' : Hp} {vs : List V} {ds : List D} (e : Ex B B') (h : Rps T B vs ds) : Rps T B' vs ds := Paired.mapP h fun _ _ q => q.mono e
theorem Rp.dp {T : Kit} {B : Hp} {v : V} {d : D} (h : Rp T B v d) (n : nd d = true) : Dp T.K B v d := by
  rcases h with h | ⟨m, p, rfl, _⟩
  · exact h
  · cases n
theorem Rps.dps {T : Kit} {B : Hp} : ∀ {vs : List V} {ds : List D}, Rps T B vs ds → ds.all nd = true → DpAll T.K B vs ds
  | _, _, .nil, _ => .nil
  | _, _, .cons h t, n => by
    rw [List.all_cons, Bool.and_eq_true] at n
    exact .cons (h.dp n.1) (Rps.dps t n.2)
end Sk
namespace L2
open PySem Sk Evl
theorem DpAll.rps {T : Kit} {B : Hp} : ∀ {vs : List V} {ds : List D}, DpAll T.K B vs ds → Rps T B vs ds
  | _, _, .nil => .nil
  | _, _, .cons h t => .cons (.inl h) (DpAll.rps t)
theorem DpAll.len {K : PySem.W.Frag} {B : Hp} : ∀ {vs : List V} {ds : List D}, DpAll K B vs ds → vs.length = ds.length
  | _, _, .nil => rfl
  | _, _, .cons _ t => congrArg Nat.succ (DpAll.len t)
theorem DpAll.get {K : PySem.W.Frag} {B : Hp} : ∀ {vs : List V} {ds : List D} {j : Nat} {d : D}, DpAll K B vs ds → ds[j]? = some d → ∃ v, vs[j]? = some v ∧ Dp K B v d
  | _, _, _, _, .nil, e => by simp at e
  | _, _, 0, _, .cons h _, e => by simp at e; subst e; exact ⟨_, rfl, h⟩
  | _, _, j + 1, d, .cons _ t, e => by
    obtain ⟨v, h1, h2⟩ := DpAll.get (j := j) (d := d) t (by simpa using e)
    exact ⟨v, by simpa using h1, h2⟩
theorem DpAll.app {K : PySem.W.Frag} {B : Hp} : ∀ {vs : List V} {ds : List D} {us : List V} {es : List D}, DpAll K B vs ds → DpAll K B us es → DpAll K B (vs ++ us) (ds ++ es)
  | _, _, _, _, .nil, s => s
  | _, _, _, _, .cons h t, s => .cons h (DpAll.app t s)
theorem DpAll.drop {K : PySem.W.Frag} {B : Hp} : ∀ {vs : List V} {ds : List D} (n : Nat), DpAll K B vs ds → DpAll K B (vs.drop n) (ds.drop n)
  | _, _, 0, h => h
  | _, _, _ + 1, .nil => .nil
  | _, _, n + 1, .cons _ t => DpAll.drop n t
theorem DpAll.take {K : PySem.W.Frag} {B : Hp} : ∀ {vs : List V} {ds : List D} (n : Nat), DpAll K B vs ds → DpAll K B (vs.take n) (ds.take n)
  | _, _, 0, _ => .nil
  | _, _, _ + 1, .nil => .nil
  | _, _, n + 1, .cons h t => .cons h (DpAll.take n t)
theorem DpAll.set {K : PySem.W.Frag} {B : Hp} {x : V} {y : D} (h : Dp K B x y) : ∀ {vs : List V} {ds : List D} (n : Nat), DpAll K B vs ds → DpAll K B (vs.set n x) (ds.set n y)
  | _, _, _, .nil => .nil
  | _, _, 0, .cons _ t => .cons h t
  | _, _, n + 1, .cons q t => .cons q (DpAll.set h n t)
/-- flat data lean on no heap -/
theorem Dp.flat {K : PySem.W.Frag} {B B' : Hp} {v : V} {d : D} (h : Dp K B v d) (f : flat d = true) : Dp K B' v d := by
  cases h with
  | non => exact .non
  | bl b => exact .bl b
  | int i => exact .int i
  | str x => exact .str x
  | lst _ _ => cases f
  | tup _ _ => cases f
end L2
namespace Sk
open PySem PySem.Spec PyProof.Rows L2 Evl
theorem Rp.flat {T : Kit} {B B' : Hp} {v : V} {d : D} (h : Rp T B v d) (f : flat d = true) : Rp T B' v d := by
  rcases h with h | ⟨m, p, rfl, _⟩
  · exact .inl (h.flat f)
  · cases f
theorem rp_int {T : Kit} {B : Hp} {v : V} {i : Int} (h : Rp T B v (.int i)) : v = .int i := by
  rcases h with h | ⟨m, p, e, _⟩
  · cases h; rfl
  · cases e
theorem rp_bool {T : Kit} {B : Hp} {v : V} {i : Bool} (h : Rp T B v (.bool i)) : v = .bl i := by
  rcases h with h | ⟨m, p, e, _⟩
  · cases h; rfl
  · cases e
theorem rp_list {T : Kit} {B : Hp} {v : V} {ds : List D} (h : Rp T B v (.list ds)) : ∃ a xs, v = .ref a ∧ SqL T.K B a xs ∧ DpAll T.K B xs ds := by
  rcases h with h | ⟨m, p, e, _⟩
  · cases h with
    | lst h1 h2 => exact ⟨_, _, rfl, h1, h2⟩
  · cases e
theorem rp_tup {T : Kit} {B : Hp} {v : V} {ds : List D} (h : Rp T B v (.tuple ds)) : ∃ a xs, v = .ref a ∧ SqT T.K B a xs ∧ DpAll T.K B xs ds := by
  rcases h with h | ⟨m, p, e, _⟩
  · cases h with
    | tup h1 h2 => exact ⟨_, _, rfl, h1, h2⟩
  · cases e
theorem rp_dict {T : Kit} {B : Hp} {v : V} {m : Kvs} (h : Rp T B v (.dict m)) : ∃ p, v = .ref p ∧ DicO T B p m (B p) := by
  rcases h with h | ⟨m', p, e, h1, h2⟩
  · cases h
  · cases e; exact ⟨p, h1, h2⟩

/-! ### what an expression yields -/
/-- what is at p, in o, may be changed: only its owner knows it -/
def Own (T : Kit) (B : Hp) (o : Option HO) (p : Addr) (d : D) : Prop := (∃ ds xs, d = .list ds ∧ o = some (.lst xs) ∧ DpAll T.K B xs ds) ∨ ∃ m, d = .dict m ∧ DicO T B p m o
def Fresh (T : Kit) (H B' H' : Hp) (v : V) (d : D) : Prop := ∃ p, v = .ref p ∧ H p = none ∧ B' p = none ∧ Own T B' (H' p) p d
def Res (T : Kit) (fr : Bool) (H B' H' : Hp) (v : V) (d : D) : Prop := if fr = true then Fresh T H B' H' v d else Rp T B' v d
theorem Own.mono {T : Kit} {B B' : Hp} {o : Option HO} {p : Addr} {d : D} (e : Ex B B') (h : Own T B o p d) : Own T B' o p d := by
  rcases h with ⟨ds, xs, h1, h2, h3⟩ | ⟨m, h1, xs, h2, h3, h4⟩
  · exact .inl ⟨ds, xs, h1, h2, h3.mono e⟩
  · exact .inr ⟨m, h1, xs, h2, h3, h4.mono e⟩
theorem Own.ex {T : Kit} {B : Hp} {o : Option HO} {p : Addr} {d : D} (h : Own T B o p d) : ∃ u, o = some u := by
  rcases h with ⟨ds, xs, h1, h2, h3⟩ | ⟨m, h1, xs, h2, h3, h4⟩
  · exact ⟨_, h2⟩
  · exact ⟨_, h2⟩
/-- it is not changed any more -/
theorem Own.rp {T : Kit} {B : Hp} {o : HO} {p : Addr} {d : D} (h : Own T B (some o) p d) (n : B p = none) : Rp T (upd B p o) (.ref p) d := by
  rcases h with ⟨ds, xs, rfl, h2, h3⟩ | ⟨m, rfl, xs, h2, h3, h4⟩
  · cases h2
    exact .inl (.lst (.inl (.inl upd_same)) (h3.mono (Ex.up n)))
  · cases h2
    exact .inr ⟨m, p, rfl, rfl, xs, upd_same, h3, h4.mono (Ex.up n)⟩
theorem Grow.seal {T : Kit} {B H B' H' : Hp} {v : V} {d : D} (g : Grow B H B' H') (h : Fresh T H B' H' v d) : ∃ B'', Grow B H B'' H' ∧ Rp T B'' v d := by
  obtain ⟨p, rfl, h1, h2, h3⟩ := h
  obtain ⟨u, hu⟩ := h3.ex
  rw [hu] at h3
  refine ⟨upd B' p u, ⟨g.b.trans (Ex.up h2), fun a o q => ?_, g.h, fun a q1 q2 => ?_⟩, h3.rp h2⟩
  · by_cases e : a = p
    · subst e; rw [upd_same] at q; cases q; exact hu
    · rw [upd_ne e] at q; exact g.i a o q
  · by_cases e : a = p
    · subst e; exact h1
    · rw [upd_ne e] at q2; exact g.n a q1 q2

/-- what is known of the slots -/
structure EnvI (T : Kit) (σ : L2.St) (B : Hp) (r : Rho) : Prop where
  len : σ.length = r.length
  at_ : ∀ (i : Nat) (d : D), r[i]? = some (some d) → ∃ v, σ[i]? = some (some v) ∧ Rp T B v d
theorem EnvI.mono {T : Kit} {σ : L2.St} {B B' : Hp} {r : Rho} (e : Ex B B') (h : EnvI T σ B r) : EnvI T σ B' r :=
  ⟨h.len, fun i d q => let ⟨v, h1, h2⟩ := h.at_ i d q; ⟨v, h1, h2.mono e⟩⟩

def rdE (T : Kit) (fr : Bool) (f : FE) : TE := fun σ H Q => ∃ B r d, Ex B H ∧ EnvI T σ B r ∧ f r = some d ∧ ∀ v B' H', Grow B H B' H' → Res T fr H B' H' v d → Q v H'
def rdA (T : Kit) (f : FA) : TA := fun σ H Q => ∃ B r ds, Ex B H ∧ EnvI T σ B r ∧ f r = some ds ∧ ∀ vs B' H', Grow B H B' H' → Rps T B' vs ds → Q vs H'
def rdT (T : Kit) (f : FT) : TT := fun σ H Q => ∃ B r b, Ex B H ∧ EnvI T σ B r ∧ f r = some b ∧ ∀ B' H', Grow B H B' H' → Q b H'
def rdO (T : Kit) (f : FO) : TO := fun σ H Q => ∃ B r b, Ex B H ∧ EnvI T σ B r ∧ f r = some b ∧ ∀ B' H', Grow B H B' H' → Q b H'

theorem pe_imp {X : Cx} {e : Expr} {t t' : TE} (h : PE X e t) (hi : ∀ σ H Q, t' σ H Q → t σ H Q) : PE X e t' := ⟨fun pins s σ H Q I hw => h.run pins s σ H Q I (hi _ _ _ hw)⟩
theorem pt_imp {X : Cx} {e : Expr} {t t' : TT} (h : PT X e t) (hi : ∀ σ H Q, t' σ H Q → t σ H Q) : PT X e t' := ⟨fun pins s σ H Q I hw => h.run pins s σ H Q I (hi _ _ _ hw)⟩
theorem pw_imp {X : Cx} {e : Expr} {t t' : TT} (h : PW X e t) (hi : ∀ σ H Q, t' σ H Q → t σ H Q) : PW X e t' := ⟨fun wh pins s σ H Q I hw => h.run wh pins s σ H Q I (hi _ _ _ hw)⟩
theorem pa_imp {X : Cx} {e : List Expr} {t t' : TA} (h : PA X e t) (hi : ∀ σ H Q, t' σ H Q → t σ H Q) : PA X e t' := ⟨fun pos pins s σ H Q I hw => h.run pos pins s σ H Q I (hi _ _ _ hw)⟩

abbrev PED (X : Cx) (fr : Bool) (e : Expr) (f : FE) : Prop := PE X e (rdE (kit X) fr f)
abbrev PTD (X : Cx) (e : Expr) (f : FT) : Prop := PT X e (rdT (kit X) f)
abbrev PWD (X : Cx) (e : Expr) (f : FT) : Prop := PW X e (rdT (kit X) f)
abbrev PAD (X : Cx) (es : List Expr) (f : FA) : Prop := PA X es (rdA (kit X) f)
abbrev POD (X : Cx) (e : Option Expr) (f : FO) : Prop := PO X e (rdO (kit X) f)

section
variable {X : Cx} {a b c e : Expr} {es : List Expr} {fa fb fc : FE} {pos : Pos}
/-- a new thing, not changed any more -/
theorem d_seal (h : PED X true e fa) : PED X false e fa := pe_imp h fun σ H Q ⟨B, r, d, i, en, hf, k⟩ =>
  ⟨B, r, d, i, en, hf, fun v B' H' g q => by
    obtain ⟨B'', g', q'⟩ := g.seal (T := kit X) q
    exact k v B'' H' g' q'⟩
theorem d_var (i : Nat) {x : Str} {pos : Pos} (hN : X.N[i]? = some x := by rfl) (hv : Vis X.env.scope x := by first | exact Or.inl rfl | exact Or.inr (Or.inl rfl) | exact Or.inr (Or.inr rfl)) (hd : (x == ("__debug__" : Str)) = false := by decide)
    (hcd : (x == ("__classdict__" : Str)) = false := by decide) : PED X false (.Name x pos) (eV i) := pe_imp (pe_var (i := i) hN hv hd hcd) fun σ H Q ⟨B, r, d, ie, en, hf, k⟩ => by
  have hf' : r[i]? = some (some d) := by
    unfold eV at hf
    cases q : r[i]? with
    | none => rw [q] at hf; cases hf
    | some o => rw [q] at hf; exact congrArg some hf
  obtain ⟨v, h1, h2⟩ := en.at_ i d hf'
  exact ⟨v, h1, k v B H (Grow.refl ie) h2⟩
theorem d_c {t : TE} {v : V} {d : D} (h : PE X e t) (ht : ∀ σ H Q, Q v H → t σ H Q) (hd : ∀ B, Dp X.K B v d) : PED X false e (eC d) := pe_imp h fun σ H Q ⟨B, r, d', ie, en, hf, k⟩ => by
  cases hf
  exact ht _ _ _ (k v B H (Grow.refl ie) (.inl (hd B)))
theorem d_int {i j pos} : PED X false (.Constant (.int i) j pos) (eC (.int i)) := d_c pe_int (fun _ _ _ q => q) fun _ => .int i
theorem d_bool {i j pos} : PED X false (.Constant (.bool i) j pos) (eC (.bool i)) := d_c pe_bl (fun _ _ _ q => q) fun _ => .bl i
theorem d_str {i j pos} : PED X false (.Constant (.str i) j pos) (eC (.str i)) := d_c pe_str (fun _ _ _ q => q) fun _ => .str i

/-! ### operators -/
def OpD (T : Kit) (r : R2) (g : D → D → Option D) : Prop := ∀ B H x y dx dy d (Q : VK), Ex B H → Rp T B x dx → Rp T B y dy → g dx dy = some d → (∀ v B' H', Grow B H B' H' → Rp T B' v d → Q v H') → r x y H Q
def CmD (T : Kit) (r : R2) (g : D → D → Option Bool) : Prop := ∀ B H x y dx dy d (Q : VK), Ex B H → Rp T B x dx → Rp T B y dy → g dx dy = some d → (∀ B' H', Grow B H B' H' → Q (.bl d) H') → r x y H Q
theorem bind2 {α β γ : Type} {x : Option α} {y : Option β} {g : α → β → Option γ} {z : γ} (h : (x.bind fun a => y.bind fun b => g a b) = some z) : ∃ a b, x = some a ∧ y = some b ∧ g a b = some z := by
  cases x with
  | none => cases h
  | some a =>
    cases y with
    | none => cases h
    | some b => exact ⟨a, b, rfl, rfl, h⟩
theorem bind1 {α γ : Type} {x : Option α} {g : α → Option γ} {z : γ} (h : x.bind g = some z) : ∃ a, x = some a ∧ g a = some z := by
  cases x with
  | none => cases h
  | some a => exact ⟨a, rfl, h⟩
theorem map1 {α γ : Type} {x : Option α} {g : α → γ} {z : γ} (h : x.map g = some z) : ∃ a, x = some a ∧ g a = z := by
  cases x with
  | none => cases h
  | some a => exact ⟨a, rfl, Option.some.inj h⟩
/-- two values from the left, then what is done with them -/
theorem two {T : Kit} {σ : L2.St} {H B : Hp} {r : Rho} {x y : D} {R : V → V → Hp → Prop} (ie : Ex B H) (en : EnvI T σ B r) (h1 : fa r = some x) (h2 : fb r = some y)
    (k : ∀ v w B' H', Grow B H B' H' → Rp T B' v x → Rp T B' w y → R v w H') : rdE T false fa σ H fun v H1 => rdE T false fb σ H1 fun w H2 => R v w H2 :=
  ⟨B, r, x, ie, en, h1, fun v B1 H1 g1 q1 => ⟨B1, r, y, g1.i, en.mono g1.b, h2, fun w B2 H2 g2 q2 => k v w B2 H2 (g1.trans g2) (Rp.mono g2.b q1) q2⟩⟩
theorem d_op {op : Operator} {r : R2} {g : D → D → Option D} (ho : OpR X (binaryOp op) r) (hd : OpD (kit X) r g) (ha : PED X false a fa) (hb : PED X false b fb) : PED X false (.BinOp a op b pos) (eB g fa fb) :=
  pe_imp (pe_op ho ha hb) fun σ H Q ⟨B, ρ, d, ie, en, hf, k⟩ => by
    obtain ⟨x, y, h1, h2, h3⟩ := bind2 hf
    exact two ie en h1 h2 fun v w B' H' g1 q1 q2 => hd B' H' v w x y d Q g1.i q1 q2 h3 fun u B2 H2 g2 q => k u B2 H2 (g1.trans g2) q
theorem d_ix {r : R2} {g : D → D → Option D} (ho : IxR X r) (hd : OpD (kit X) r g) (ha : PED X false a fa) (hb : PED X false b fb) (hs : PlainIx b) : PED X false (.Subscript a b pos) (eB g fa fb) :=
  pe_imp (pe_ix ho ha hb hs) fun σ H Q ⟨B, ρ, d, ie, en, hf, k⟩ => by
    obtain ⟨x, y, h1, h2, h3⟩ := bind2 hf
    exact two ie en h1 h2 fun v w B' H' g1 q1 q2 => hd B' H' v w x y d Q g1.i q1 q2 h3 fun u B2 H2 g2 q => k u B2 H2 (g1.trans g2) q
theorem d_cmp {op : CmpOp} {r : R2} {g : D → D → Option Bool} (ho : OpR X (compareOp op) r) (hd : CmD (kit X) r g) (ha : PED X false a fa) (hb : PED X false b fb) (hm : behindInMarks op b = false) : PED X false (.Compare a [op] [b] pos) (eT (tC g fa fb)) :=
  pe_imp (pe_cmpR ho ha hb hm) fun σ H Q ⟨B, ρ, d, ie, en, hf, k⟩ => by
    obtain ⟨z, h0, rfl⟩ := map1 hf
    obtain ⟨x, y, h1, h2, h3⟩ := bind2 h0
    exact two ie en h1 h2 fun v w B' H' g1 q1 q2 => hd B' H' v w x y z Q g1.i q1 q2 h3 fun B2 H2 g2 => k _ B2 H2 (g1.trans g2) (.inl (.bl z))
theorem t_cmp {op : CmpOp} {r : R2} {g : D → D → Option Bool} (ho : OpR X (compareOp op) r) (hd : CmD (kit X) r g) (ha : PED X false a fa) (hb : PED X false b fb) (hm : behindInMarks op b = false) : PTD X (.Compare a [op] [b] pos) (tC g fa fb) :=
  pt_imp (pt_cmpR ho ha hb hm) fun σ H Q ⟨B, ρ, d, ie, en, hf, k⟩ => by
    obtain ⟨x, y, h1, h2, h3⟩ := bind2 hf
    exact two ie en h1 h2 fun v w B' H' g1 q1 q2 => hd B' H' v w x y d _ g1.i q1 q2 h3 fun B2 H2 g2 => ⟨d, rfl, k B2 H2 (g1.trans g2)⟩
theorem chain_core {T : Kit} {r r' : R2} {g g' : D → D → Option Bool} (hd : CmD T r g) (hd' : CmD T r' g') {σ : L2.St} {H B : Hp} {ρ : Rho} {z : Bool} {Q : VK} (ie : Ex B H) (en : EnvI T σ B ρ) (hf : tCh g g' fa fb fc ρ = some z)
    (k : ∀ B' H', Grow B H B' H' → Q (.bl z) H') : tChain r r' (rdE T false fa) (rdE T false fb) (rdE T false fc) σ H Q := by
  unfold tCh at hf
  obtain ⟨x, h1, h0⟩ := bind1 hf
  obtain ⟨y, h2, h0⟩ := bind1 h0
  obtain ⟨b, h3, h0⟩ := bind1 h0
  refine two ie en h1 h2 fun v w B' H' g1 q1 q2 => hd B' H' v w x y b _ g1.i q1 q2 h3 fun B2 H2 g2 => ⟨b, rfl, ?_⟩
  cases b with
  | false =>
    cases h0
    rw [if_neg Bool.false_ne_true]
    exact k B2 H2 (g1.trans g2)
  | true =>
    rw [if_pos rfl] at h0
    obtain ⟨c, h4, h5⟩ := bind1 h0
    rw [if_pos rfl]
    have g12 := g1.trans g2
    exact ⟨B2, ρ, c, g2.i, en.mono g12.b, h4, fun u B3 H3 g3 q3 => hd' B3 H3 w u y c z Q g3.i (Rp.mono (g2.trans g3).b q2) q3 h5 fun B4 H4 g4 => k B4 H4 (g12.trans (g3.trans g4))⟩
end
end Sk
/-! SkLay2: the operators, comparisons and tests by their semantic functions -/
namespace Sk
open PySem PySem.Spec PyProof.Rows L2 Evl

section
variable {T : Kit}
theorem od_int {g : Int → Int → Int} {G : D → D → Option D} (h : ∀ x y d, G x y = some d → ∃ i j, x = .int i ∧ y = .int j ∧ d = .int (g i j)) : OpD T (rI0 fun i j => .int (g i j)) G := by
  intro B H x y dx dy d Q ie hx hy e k
  obtain ⟨i, j, rfl, rfl, rfl⟩ := h _ _ _ e
  exact ⟨i, j, rp_int hx, rp_int hy, k _ B H (Grow.refl ie) (.inl (.int _))⟩
theorem od_intC {C : Int → Int → Prop} {g : Int → Int → Int} {G : D → D → Option D} (h : ∀ x y d, G x y = some d → ∃ i j, x = .int i ∧ y = .int j ∧ C i j ∧ d = .int (g i j)) : OpD T (rI C fun i j => .int (g i j)) G := by
  intro B H x y dx dy d Q ie hx hy e k
  obtain ⟨i, j, rfl, rfl, hc, rfl⟩ := h _ _ _ e
  exact ⟨i, j, rp_int hx, rp_int hy, hc, k _ B H (Grow.refl ie) (.inl (.int _))⟩
theorem od_add : OpD T (rI0 fun i j => .int (i + j)) oAdd := od_int fun x y d e => by
  unfold oAdd at e
  split at e
  · cases e; exact ⟨_, _, rfl, rfl, rfl⟩
  · cases e
theorem od_sub : OpD T (rI0 fun i j => .int (i - j)) oSub := od_int fun x y d e => by
  unfold oSub at e
  split at e
  · cases e; exact ⟨_, _, rfl, rfl, rfl⟩
  · cases e
theorem od_mul : OpD T (rI CMul fun i j => .int (i * j)) oMul := od_intC fun x y d e => by
  unfold oMul at e
  split at e
  · split at e
    · rename_i hc
      cases e; exact ⟨_, _, rfl, rfl, hc, rfl⟩
    · cases e
  · cases e
theorem od_div : OpD T (rI CDiv fun i j => .int (i / j)) oDiv := od_intC fun x y d e => by
  unfold oDiv at e
  split at e
  · split at e
    · rename_i hc
      cases e; exact ⟨_, _, rfl, rfl, hc, rfl⟩
    · cases e
  · cases e
theorem od_mod : OpD T (rI (fun _ j => 0 < j) fun i j => .int (i % j)) oMod := od_intC fun x y d e => by
  unfold oMod at e
  split at e
  · split at e
    · rename_i hc
      cases e; exact ⟨_, _, rfl, rfl, hc, rfl⟩
    · cases e
  · cases e
theorem od_pow : OpD T (rI CPow fun i j => .int (i ^ j.toNat)) oPow := od_intC fun x y d e => by
  unfold oPow at e
  split at e
  · split at e
    · rename_i hc
      cases e; exact ⟨_, _, rfl, rfl, hc, rfl⟩
    · cases e
  · cases e
theorem cd_int {p : Int → Int → Bool} {G : D → D → Option Bool} (h : ∀ x y d, G x y = some d → ∃ i j, x = .int i ∧ y = .int j ∧ d = p i j) : CmD T (rI0 fun i j => .bl (p i j)) G := by
  intro B H x y dx dy d Q ie hx hy e k
  obtain ⟨i, j, rfl, rfl, rfl⟩ := h _ _ _ e
  exact ⟨i, j, rp_int hx, rp_int hy, k B H (Grow.refl ie)⟩
theorem cd_lt : CmD T (rI0 fun i j => .bl (decide (i < j))) cLt := cd_int (p := fun i j => decide (i < j)) fun x y d e => by
  unfold cLt at e
  split at e
  · cases e; exact ⟨_, _, rfl, rfl, rfl⟩
  · cases e
theorem cd_le : CmD T (rI0 fun i j => .bl (decide (i ≤ j))) cLe := cd_int (p := fun i j => decide (i ≤ j)) fun x y d e => by
  unfold cLe at e
  split at e
  · cases e; exact ⟨_, _, rfl, rfl, rfl⟩
  · cases e
theorem cd_gt : CmD T (rI0 fun i j => .bl (decide (j < i))) cGt := cd_int (p := fun i j => decide (j < i)) fun x y d e => by
  unfold cGt at e
  split at e
  · cases e; exact ⟨_, _, rfl, rfl, rfl⟩
  · cases e
theorem cd_ge : CmD T (rI0 fun i j => .bl (decide (j ≤ i))) cGe := cd_int (p := fun i j => decide (j ≤ i)) fun x y d e => by
  unfold cGe at e
  split at e
  · cases e; exact ⟨_, _, rfl, rfl, rfl⟩
  · cases e

/-! ### == at any depth -/
theorem all2_eqv {n : Nat} (ih : ∀ x y, plain n x = true → plain n y = true → PyData.eqv x y = deq n x y) : ∀ xs ys : List D, xs.all (plain n) = true → ys.all (plain n) = true → PyData.eqvAll xs ys = all2 (deq n) xs ys
  | [], [], _, _ => by simp [PyData.eqvAll, all2]
  | [], _ :: _, _, _ => by simp [PyData.eqvAll, all2]
  | _ :: _, [], _, _ => by simp [PyData.eqvAll, all2]
  | x :: xs, y :: ys, h1, h2 => by
    rw [List.all_cons, Bool.and_eq_true] at h1 h2
    rw [PyData.eqvAll, all2, ih x y h1.1 h2.1, all2_eqv ih xs ys h1.2 h2.2]
theorem eqv_deq : ∀ (n : Nat) (x y : D), plain n x = true → plain n y = true → PyData.eqv x y = deq n x y
  | n, .int a, y, _, h2 => by
    cases y <;> first | (cases n <;> simp [plain] at h2; done) | (cases n <;> simp [PyData.eqv, deq, Bool.beq_eq_decide_eq])
  | n, .str a, y, _, h2 => by
    cases y <;> first | (cases n <;> simp [plain] at h2; done) | (cases n <;> simp [PyData.eqv, deq, Bool.beq_eq_decide_eq])
  | 0, .list a, y, h1, _ => by simp [plain] at h1
  | 0, .tuple a, y, h1, _ => by simp [plain] at h1
  | n + 1, .list a, y, h1, h2 => by
    cases y with
    | list b =>
      rw [PyData.eqv, deq]
      exact all2_eqv (eqv_deq n) a b (by simpa [plain] using h1) (by simpa [plain] using h2)
    | _ => first | (simp [plain] at h2; done) | (simp [PyData.eqv, deq])
  | n + 1, .tuple a, y, h1, h2 => by
    cases y with
    | tuple b =>
      rw [PyData.eqv, deq]
      exact all2_eqv (eqv_deq n) a b (by simpa [plain] using h1) (by simpa [plain] using h2)
    | _ => first | (simp [plain] at h2; done) | (simp [PyData.eqv, deq])
  | n, .none, y, h1, _ => by cases n <;> simp [plain] at h1
  | n, .bool _, y, h1, _ => by cases n <;> simp [plain] at h1
  | n, .dict _, y, h1, _ => by cases n <;> simp [plain] at h1
theorem lay_all {n : Nat} (ih : ∀ x, plain n x = true → PyData.canLay0 x = true ∧ PyData.depth x ≤ n) : ∀ xs : List D, xs.all (plain n) = true → PyData.canLayAll0 xs = true ∧ PyData.depthAll xs ≤ n
  | [], _ => by simp [PyData.canLayAll0, PyData.depthAll]
  | x :: xs, h => by
    rw [List.all_cons, Bool.and_eq_true] at h
    obtain ⟨h1, h2⟩ := ih x h.1
    obtain ⟨h3, h4⟩ := lay_all ih xs h.2
    refine ⟨by rw [PyData.canLayAll0, h1, h3]; rfl, ?_⟩
    rw [PyData.depthAll]
    exact Nat.max_le.mpr ⟨h2, h4⟩
theorem plain_lay : ∀ (n : Nat) (x : D), plain n x = true → PyData.canLay0 x = true ∧ PyData.depth x ≤ n
  | n, .int a, _ => by simp [PyData.canLay0, PyData.depth]
  | n, .str a, h => by
    have h' : a = "take" ∨ a = "leave" := by cases n <;> simpa [plain] using h
    rcases h' with rfl | rfl
    · exact ⟨by rw [PyData.canLay0]; decide +kernel, by simp [PyData.depth]⟩
    · exact ⟨by rw [PyData.canLay0]; decide +kernel, by simp [PyData.depth]⟩
  | 0, .list a, h => by simp [plain] at h
  | 0, .tuple a, h => by simp [plain] at h
  | n + 1, .list a, h => by
    obtain ⟨h1, h2⟩ := lay_all (plain_lay n) a (by simpa [plain] using h)
    exact ⟨by rw [PyData.canLay0]; exact h1, by rw [PyData.depth]; omega⟩
  | n + 1, .tuple a, h => by
    obtain ⟨h1, h2⟩ := lay_all (plain_lay n) a (by simpa [plain] using h)
    exact ⟨by rw [PyData.canLay0]; exact h1, by rw [PyData.depth]; omega⟩
  | n, .none, h => by cases n <;> simp [plain] at h
  | n, .bool _, h => by cases n <;> simp [plain] at h
  | n, .dict _, h => by cases n <;> simp [plain] at h
theorem plain_shaped {n : Nat} {x : D} (hn : n ≤ 64) (h : plain n x = true) : SeqAt.shaped x = true := by
  obtain ⟨h1, h2⟩ := plain_lay n x h
  show (x.canLay0 && decide (x.depth ≤ 64)) = true
  rw [h1, Bool.true_and]
  exact decide_eq_true (by omega)
theorem plain_nd {n : Nat} {x : D} (h : plain n x = true) : nd x = true := by
  cases x with
  | dict _ => cases n <;> simp [plain] at h
  | _ => rfl
theorem cd_eq : CmD T (rEqD T.K) cEq := by
  intro B H x y dx dy d Q ie hx hy e k
  unfold cEq at e
  split at e
  · rename_i hp
    rw [Bool.and_eq_true] at hp
    cases e
    refine ⟨dx, dy, (hx.dp (plain_nd hp.1)).mono ie, (hy.dp (plain_nd hp.2)).mono ie, plain_shaped (by decide) hp.1, plain_shaped (by decide) hp.2, ?_⟩
    rw [eqv_deq 8 dx dy hp.1 hp.2]
    exact k B H (Grow.refl ie)
  · cases e
theorem cd_ne : CmD T (rNeD T.K) cNe := by
  intro B H x y dx dy d Q ie hx hy e k
  unfold cNe at e
  split at e
  · rename_i hp
    rw [Bool.and_eq_true] at hp
    cases e
    refine ⟨dx, dy, (hx.dp (plain_nd hp.1)).mono ie, (hy.dp (plain_nd hp.2)).mono ie, plain_shaped (by decide) hp.1, plain_shaped (by decide) hp.2, ?_⟩
    rw [eqv_deq 8 dx dy hp.1 hp.2]
    exact k B H (Grow.refl ie)
  · cases e
theorem any_deq {n : Nat} {x : D} (hx : plain n x = true) : ∀ ys : List D, ys.all (plain n) = true → (ys.any fun z => PyData.eqv z x) = ys.any fun z => deq n z x
  | [], _ => rfl
  | y :: ys, h => by
    rw [List.all_cons, Bool.and_eq_true] at h
    rw [List.any_cons, List.any_cons, eqv_deq n y x h.1 hx, any_deq hx ys h.2]
theorem cd_niD : CmD T (rNotInD T.K) cNiD := by
  intro B H x y dx dy d Q ie hx hy e k
  unfold cNiD at e
  split at e
  · rename_i ys
    split at e
    · rename_i hp
      rw [Bool.and_eq_true] at hp
      cases e
      obtain ⟨a, xs, rfl, h1, h2⟩ := rp_list hy
      refine ⟨dx, ys, (hx.dp (plain_nd hp.1)).mono ie, (Dp.lst h1 h2).mono ie, plain_shaped (by decide) hp.1, plain_shaped (n := 9) (by decide) (by rw [plain]; exact hp.2), ?_⟩
      rw [any_deq hp.1 ys hp.2]
      exact k B H (Grow.refl ie)
    · cases e
  · cases e

/-! ### in, among dInts -/
theorem ints_eq : ∀ {ds : List D} {ns : List Int}, dInts ds = some ns → ds = ns.map .int
  | [], ns, h => by
    rw [dInts] at h
    cases h; rfl
  | d :: ds, ns, h => by
    cases d with
    | int i =>
      rw [dInts] at h
      obtain ⟨r, h1, rfl⟩ := map1 h
      rw [List.map_cons, ← ints_eq h1]
    | _ => simp [dInts] at h
theorem bools_eq : ∀ {ds : List D} {ns : List Bool}, dBools ds = some ns → ds = ns.map .bool
  | [], ns, h => by
    rw [dBools] at h
    cases h; rfl
  | d :: ds, ns, h => by
    cases d with
    | bool i =>
      rw [dBools] at h
      obtain ⟨r, h1, rfl⟩ := map1 h
      rw [List.map_cons, ← bools_eq h1]
    | _ => simp [dBools] at h
theorem dp_ints {K : PySem.W.Frag} {B : Hp} : ∀ {xs : List V} {ns : List Int}, DpAll K B xs (ns.map .int) → xs = ns.map V.int
  | _, [], h => by cases h; rfl
  | _, n :: ns, h => by
    cases h with
    | cons h1 h2 =>
      cases h1
      rw [List.map_cons, dp_ints h2]
theorem dp_bools {K : PySem.W.Frag} {B : Hp} : ∀ {xs : List V} {ns : List Bool}, DpAll K B xs (ns.map .bool) → xs = ns.map V.bl
  | _, [], h => by cases h; rfl
  | _, n :: ns, h => by
    cases h with
    | cons h1 h2 =>
      cases h1
      rw [List.map_cons, dp_bools h2]
theorem flat_ints (ns : List Int) : (ns.map V.int).all flatV = true := by
  rw [List.all_map]
  exact List.all_eq_true.mpr fun _ _ => rfl
theorem inV_ints (i : Int) : ∀ ns : List Int, inV (.int i) (ns.map V.int) = ns.contains i
  | [] => rfl
  | n :: ns => by
    have ih := inV_ints i ns
    unfold inV at ih ⊢
    rw [List.map_cons, List.any_cons, ih, List.contains_cons]
    congr 1
    show (n == i) = (i == n)
    exact Bool.beq_comm
theorem cd_in_core {neg : Bool} {G : D → D → Option Bool} (h : ∀ x y d, G x y = some d → ∃ (i : Int) (ns : List Int), x = .int i ∧ (y = .list (ns.map .int) ∨ y = .tuple (ns.map .int)) ∧ d = if neg then !ns.contains i else ns.contains i) : CmD T (rIn T.K neg) G := by
  intro B H x y dx dy d Q ie hx hy e k
  obtain ⟨i, ns, rfl, hl, rfl⟩ := h _ _ _ e
  have hx' := rp_int hx
  subst hx'
  have q := k B H (Grow.refl ie)
  rcases hl with rfl | rfl
  · obtain ⟨a, xs, rfl, h1, h2⟩ := rp_list hy
    have e := dp_ints h2
    subst e
    exact ⟨a, _, rfl, .inl (ex_l ie h1), rfl, flat_ints ns, by rw [inV_ints]; exact q⟩
  · obtain ⟨a, xs, rfl, h1, h2⟩ := rp_tup hy
    have e := dp_ints h2
    subst e
    exact ⟨a, _, rfl, .inr (ex_t ie h1), rfl, flat_ints ns, by rw [inV_ints]; exact q⟩
theorem cIn_of {x y : D} {d : Bool} (e : cIn x y = some d) : ∃ (i : Int) (ns : List Int), x = .int i ∧ (y = .list (ns.map .int) ∨ y = .tuple (ns.map .int)) ∧ d = ns.contains i := by
  unfold cIn at e
  split at e
  · obtain ⟨ns, h1, rfl⟩ := map1 e
    exact ⟨_, ns, rfl, .inl (by rw [ints_eq h1]), rfl⟩
  · obtain ⟨ns, h1, rfl⟩ := map1 e
    exact ⟨_, ns, rfl, .inr (by rw [ints_eq h1]), rfl⟩
  · cases e
theorem cd_in : CmD T (rIn T.K false) cIn := cd_in_core fun x y d e => cIn_of e
theorem cd_ni : CmD T (rIn T.K true) cNi := cd_in_core fun x y d e => by
  obtain ⟨b, h, rfl⟩ := map1 e
  obtain ⟨i, ns, h1, h2, rfl⟩ := cIn_of h
  exact ⟨i, ns, h1, h2, rfl⟩
theorem cd_notTrue : CmD T rNotB cNotTrue := by
  intro B H x y dx dy d Q ie hx hy e k
  unfold cNotTrue at e
  split at e
  · rename_i a
    cases e
    refine ⟨a, true, rp_bool hx, rp_bool hy, ?_⟩
    have q := k B H (Grow.refl ie)
    cases a <;> exact q
  · cases e

/-! ### lists and tuples: +, an item -/
theorem ix_same (n : Nat) (i : Int) : Sk.ixN n i = L2.ixN n i := by
  unfold Sk.ixN L2.ixN
  (repeat' split) <;> first | rfl | omega
theorem od_ixL : OpD T (rIx T.K) oIx := by
  intro B H x y dx dy d Q ie hx hy e k
  have at_of : ∀ {xs : List V} {ds : List D} {i : Int}, DpAll T.K B xs ds → atD ds i = some d → ∃ v, L2.atI xs i = some v ∧ Dp T.K B v d := by
    intro xs ds i h1 h2
    unfold atD at h2
    obtain ⟨j, h3, h4⟩ := bind1 h2
    obtain ⟨v, h5, h6⟩ := h1.get h4
    refine ⟨v, ?_, h6⟩
    unfold L2.atI
    have e1 : L2.ixN xs.length i = some j := by rw [h1.len, ← ix_same]; exact h3
    rw [e1]
    exact h5
  unfold oIx at e
  split at e
  · obtain ⟨a, xs, rfl, h1, h2⟩ := rp_list hx
    have hy' := rp_int hy
    subst hy'
    obtain ⟨v, h3, h4⟩ := at_of h2 e
    exact .inl ⟨a, xs, _, v, rfl, rfl, ex_l ie h1, h3, k v B H (Grow.refl ie) (.inl h4)⟩
  · obtain ⟨a, xs, rfl, h1, h2⟩ := rp_tup hx
    have hy' := rp_int hy
    subst hy'
    obtain ⟨v, h3, h4⟩ := at_of h2 e
    exact .inr (.inl ⟨a, xs, _, v, rfl, rfl, ex_t ie h1, h3, k v B H (Grow.refl ie) (.inl h4)⟩)
  · cases e
end
end Sk
/-! SkLay3: lists and tuples put together, arguments, displays, calls, tests -/
namespace Sk
open PySem PySem.Spec PyProof.Rows L2 Evl

/-! ### list + list, whatever bears them -/
def rCatS (K : PySem.W.Frag) : R2 := fun x y H Q => ∃ l b xs zs, x = .ref l ∧ y = .ref b ∧ SqL K H l xs ∧ SqL K H b zs ∧ xs.length + zs.length ≤ sizeLine ∧ ∀ p, H p = none → Q (.ref p) (upd H p (.lst (xs ++ zs)))
theorem op_catS {X : Cx} : OpR X (binaryOp .Add) (rCatS X.K) := by
  intro pins s σ H x y v u Q I rx ry h
  obtain ⟨l, b, xs, zs, rfl, rfl, hl, hb, hz, q⟩ := h
  cases rx
  cases ry
  obtain ⟨its, r, p1, _⟩ := I.list hl
  obtain ⟨its2, r2, p2, _⟩ := I.list hb
  obtain ⟨⟨c1, d1, dt1, sl1⟩, ho1, hc1, n1, hd1⟩ := p1.isList
  obtain ⟨⟨c2, d2, dt2, sl2⟩, ho2, hc2, n2, hd2⟩ := p2.isList
  simp only at hc1 hd1 hc2 hd2
  subst hc1 hd1 hc2 hd2
  have e1 := r.length
  have e2 := r2.length
  have ea : its.toArray ++ its2.toArray = (its ++ its2).toArray := by simp
  refine concat_meets ⟨_, ho1, rfl⟩ ⟨_, ho2, rfl⟩ noFill_list_add seq_list_add PySem.F.slot_list_add PySem.F.entry_list_add (PySem.F.args_list_add_2 _ _)
    (list_addW l b its.toArray its2.toArray n1 n2 d1 d2 sl1 sl2 (by simp only [List.size_toArray]; omega)) ⟨ho1, ho2, ?_⟩
  rw [ea]
  exact ⟨.ref _, _, I.lnew (t' := s.toks) (r.append r2) (by rw [List.length_append]; omega), rfl, q _ I.fresh⟩

theorem lim_eq : LIM = sizeLine := by rw [sizeLine_eq]; rfl
section
variable {T : Kit}
/-- a new list or tuple of data, sealed at once -/
theorem new_lst {B H : Hp} {p : Addr} {xs : List V} {ds : List D} (h : DpAll T.K B xs ds) (ie : Ex B H) (np : H p = none) : Grow B H (upd B p (.lst xs)) (upd H p (.lst xs)) ∧ Rp T (upd B p (.lst xs)) (.ref p) (.list ds) :=
  ⟨Grow.new ie np, .inl (.lst (.inl (.inl upd_same)) (h.mono (Ex.up (ie.back np))))⟩
theorem new_tup {B H : Hp} {p : Addr} {xs : List V} {ds : List D} (h : DpAll T.K B xs ds) (ie : Ex B H) (np : H p = none) : Grow B H (upd B p (.tup xs)) (upd H p (.tup xs)) ∧ Rp T (upd B p (.tup xs)) (.ref p) (.tuple ds) :=
  ⟨Grow.new ie np, .inl (.tup (.inl (.inl upd_same)) (h.mono (Ex.up (ie.back np))))⟩
theorem od_catL : OpD T (rCatS T.K) oCatL := by
  intro B H x y dx dy d Q ie hx hy e k
  unfold oCatL at e
  split at e
  · split at e
    · rename_i hz
      cases e
      obtain ⟨a, xs, rfl, h1, h2⟩ := rp_list hx
      obtain ⟨b, ys, rfl, h3, h4⟩ := rp_list hy
      refine ⟨a, b, xs, ys, rfl, rfl, ex_l ie h1, ex_l ie h3, by rw [h2.len, h4.len, ← lim_eq]; exact hz, fun p np => ?_⟩
      obtain ⟨g, q⟩ := new_lst (T := T) (h2.app h4) ie np
      exact k _ _ _ g q
    · cases e
  · cases e
theorem od_catT : OpD T (rCatA T.K) oCatT := by
  intro B H x y dx dy d Q ie hx hy e k
  unfold oCatT at e
  split at e
  · split at e
    · rename_i hz
      cases e
      obtain ⟨a, xs, rfl, h1, h2⟩ := rp_tup hx
      obtain ⟨b, ys, rfl, h3, h4⟩ := rp_tup hy
      refine ⟨a, b, xs, ys, rfl, rfl, ex_t ie h1, ex_t ie h3, by rw [h2.len, h4.len, ← lim_eq]; exact hz, fun q => ?_, fun _ q => ?_, fun _ _ p np => ?_⟩
      · subst q
        cases h2
        exact k _ B H (Grow.refl ie) hy
      · subst q
        cases h4
        rw [List.append_nil] at k
        exact k _ B H (Grow.refl ie) hx
      · obtain ⟨g, q⟩ := new_tup (T := T) (h2.app h4) ie np
        exact k _ _ _ g q
    · cases e
  · cases e
end

/-! ### arguments, displays -/
section
variable {X : Cx} {a b c e : Expr} {es : List Expr} {fa fb fc : FE} {ga gb : FA} {pos : Pos}
theorem a_nil : PAD X [] aNil := pa_imp pa_nil fun σ H Q ⟨B, r, ds, ie, en, hf, k⟩ => by
  cases hf
  exact k [] B H (Grow.refl ie) .nil
theorem a_cons (ha : PED X false e fa) (hr : PAD X es ga) (hs : starEach (e :: es) X.env = (false, eval e X.env) :: starEach es X.env := by rfl) : PAD X (e :: es) (aCons fa ga) :=
  pa_imp (pa_cons ha hr hs) fun σ H Q ⟨B, r, ds, ie, en, hf, k⟩ => by
    obtain ⟨x, xs, h1, h2, h3⟩ := bind2 hf
    cases h3
    exact ⟨B, r, x, ie, en, h1, fun v B1 H1 g1 q1 => ⟨B1, r, xs, g1.i, en.mono g1.b, h2, fun vs B2 H2 g2 q2 => k (v :: vs) B2 H2 (g1.trans g2) (.cons (Rp.mono g2.b q1) q2)⟩⟩
theorem guard_nd {xs : List D} {d : D} {g : List D → D} (h : (if (xs.all nd && decide (xs.length ≤ LIM)) = true then some (g xs) else none) = some d) : xs.all nd = true ∧ xs.length ≤ LIM ∧ g xs = d := by
  split at h
  · rename_i hc
    rw [Bool.and_eq_true] at hc
    exact ⟨hc.1, of_decide_eq_true hc.2, Option.some.inj h⟩
  · cases h
theorem d_tup {x1} (h : PAD X es ga) : PED X false (.Tuple es x1 pos) (eTup ga) := pe_imp (pe_tup h) fun σ H Q ⟨B, r, d, ie, en, hf, k⟩ => by
  obtain ⟨xs, h1, h2⟩ := bind1 hf
  obtain ⟨h3, h4, rfl⟩ := guard_nd h2
  refine ⟨B, r, xs, ie, en, h1, fun vs B1 H1 g1 q1 => ⟨?_, fun p np => ?_⟩⟩
  · have := (Rps.dps q1 h3).len
    rw [this, ← lim_eq]; exact h4
  · obtain ⟨g, q⟩ := new_tup (T := kit X) (Rps.dps q1 h3) g1.i np
    exact k _ _ _ (g1.trans g) q
/-- [..], open to change -/
theorem d_lst (h : PAD X es ga) : PED X true (.List es pos) (eLst ga) := pe_imp (pe_lst h) fun σ H Q ⟨B, r, d, ie, en, hf, k⟩ => by
  obtain ⟨xs, h1, h2⟩ := bind1 hf
  obtain ⟨h3, h4, rfl⟩ := guard_nd h2
  refine ⟨B, r, xs, ie, en, h1, fun vs B1 H1 g1 q1 => ⟨?_, fun p np => ?_⟩⟩
  · have := (Rps.dps q1 h3).len
    rw [this, ← lim_eq]; exact h4
  · exact k _ _ _ (g1.trans (Grow.open g1.i np)) ⟨p, rfl, g1.h.back np, g1.i.back np, .inl ⟨xs, vs, rfl, upd_same, Rps.dps q1 h3⟩⟩

/-! ### calls of built-ins -/
def ClD (T : Kit) (r : List V → Hp → VK → Prop) (F : List D → Option D) : Prop := ∀ B H vs ds d (Q : VK), Ex B H → Rps T B vs ds → F ds = some d → (∀ v B' H', Grow B H B' H' → Rp T B' v d → Q v H') → r vs H Q
theorem d_callB {id : String} {x : Str} {p : Pos} {r : List V → Hp → VK → Prop} {F : List D → Option D} (hc : CallR X (.builtin id) r) (hd : ClD (kit X) r F) (hg : Gl X x) (hm : X.mg x = none) (hv : bootBuiltins x = some (.builtin id)) (ha : PAD X (e :: es) ga)
    (hn : x ≠ "__name__" := by decide) (hdb : (x == ("__debug__" : Str)) = false := by decide) (he : starEach (e :: es) X.env = (false, eval e X.env) :: starEach es X.env := by rfl) (hpl : (backTo pos (starEach es X.env)).any (·.1) = false := by rfl) :
    PED X false (.Call (.Name x p) (e :: es) [] pos) (eF F ga) := pe_imp (pe_callB hc hg hm hv ha hn hdb he hpl) fun σ H Q ⟨B, r, d, ie, en, hf, k⟩ => by
  obtain ⟨xs, h1, h2⟩ := bind1 hf
  exact ⟨B, r, xs, ie, en, h1, fun vs B1 H1 g1 q1 => hd B1 H1 vs xs d Q g1.i q1 h2 fun v B2 H2 g2 q2 => k v B2 H2 (g1.trans g2) q2⟩
theorem d_callTy {id : String} {x : Str} {p : Pos} {r : List V → Hp → VK → Prop} {F : List D → Option D} (hc : CallR X (.type id) r) (hd : ClD (kit X) r F) (hg : Gl X x) (hm : X.mg x = none) (hv : bootBuiltins x = some (.type id)) (ha : PAD X (e :: es) ga)
    (hn : x ≠ "__name__" := by decide) (hdb : (x == ("__debug__" : Str)) = false := by decide) (he : starEach (e :: es) X.env = (false, eval e X.env) :: starEach es X.env := by rfl) (hpl : (backTo pos (starEach es X.env)).any (·.1) = false := by rfl) :
    PED X false (.Call (.Name x p) (e :: es) [] pos) (eF F ga) := pe_imp (pe_callTy hc hg hm hv ha hn hdb he hpl) fun σ H Q ⟨B, r, d, ie, en, hf, k⟩ => by
  obtain ⟨xs, h1, h2⟩ := bind1 hf
  exact ⟨B, r, xs, ie, en, h1, fun vs B1 H1 g1 q1 => hd B1 H1 vs xs d Q g1.i q1 h2 fun v B2 H2 g2 q2 => k v B2 H2 (g1.trans g2) q2⟩
end
section
variable {T : Kit}
theorem rps1 {B : Hp} {vs : List V} {d : D} (h : Rps T B vs [d]) : ∃ v, vs = [v] ∧ Rp T B v d := by
  cases h with
  | cons h t => cases t; exact ⟨_, rfl, h⟩
theorem rps2 {B : Hp} {vs : List V} {d e : D} (h : Rps T B vs [d, e]) : ∃ v u, vs = [v, u] ∧ Rp T B v d ∧ Rp T B u e := by
  cases h with
  | cons h t =>
    cases t with
    | cons h2 t => cases t; exact ⟨_, _, rfl, h, h2⟩
theorem ld_len : ClD T (fun xs H Q => ∃ p ys, xs = [.ref p] ∧ (SqL T.K H p ys ∨ SqT T.K H p ys) ∧ Q (.int ys.length) H) fLen := by
  intro B H vs ds d Q ie hv e k
  unfold fLen at e
  split at e
  · cases e
    obtain ⟨v, rfl, h⟩ := rps1 hv
    obtain ⟨a, ys, rfl, h1, h2⟩ := rp_list h
    exact ⟨a, ys, rfl, .inl (ex_l ie h1), k _ B H (Grow.refl ie) (.inl (by rw [h2.len]; exact .int _))⟩
  · cases e
    obtain ⟨v, rfl, h⟩ := rps1 hv
    obtain ⟨a, ys, rfl, h1, h2⟩ := rp_tup h
    exact ⟨a, ys, rfl, .inr (ex_t ie h1), k _ B H (Grow.refl ie) (.inl (by rw [h2.len]; exact .int _))⟩
  · cases e
theorem ld_abs : ClD T (fun xs H Q => ∃ i : Int, xs = [.int i] ∧ Q (.int (if i < 0 then -i else i)) H) fAbs := by
  intro B H vs ds d Q ie hv e k
  unfold fAbs at e
  split at e
  · cases e
    obtain ⟨v, rfl, h⟩ := rps1 hv
    rw [rp_int h]
    exact ⟨_, rfl, k _ B H (Grow.refl ie) (.inl (.int _))⟩
  · cases e
theorem ld_int : ClD T (fun xs H Q => (∃ i, xs = [.int i] ∧ Q (.int i) H) ∨ ∃ k, xs = [.bl k] ∧ Q (.int (if k then 1 else 0)) H) fInt := by
  intro B H vs ds d Q ie hv e k
  unfold fInt at e
  split at e
  · cases e
    obtain ⟨v, rfl, h⟩ := rps1 hv
    rw [rp_int h]
    exact .inl ⟨_, rfl, k _ B H (Grow.refl ie) (.inl (.int _))⟩
  · cases e
theorem ld_max2 : ClD T (fun xs H Q => ∃ i j : Int, xs = [.int i, .int j] ∧ Q (.int (if j > i then j else i)) H) fMax2 := by
  intro B H vs ds d Q ie hv e k
  unfold fMax2 at e
  split at e
  · cases e
    obtain ⟨v, u, rfl, h, h'⟩ := rps2 hv
    rw [rp_int h, rp_int h']
    exact ⟨_, _, rfl, k _ B H (Grow.refl ie) (.inl (.int _))⟩
  · cases e
theorem ld_min2 : ClD T (fun xs H Q => ∃ i j : Int, xs = [.int i, .int j] ∧ Q (.int (if j < i then j else i)) H) fMin2 := by
  intro B H vs ds d Q ie hv e k
  unfold fMin2 at e
  split at e
  · cases e
    obtain ⟨v, u, rfl, h, h'⟩ := rps2 hv
    rw [rp_int h, rp_int h']
    exact ⟨_, _, rfl, k _ B H (Grow.refl ie) (.inl (.int _))⟩
  · cases e
theorem foldl_min_spec : ∀ (r : List Int) (x : Int), (r.foldl min x) ∈ x :: r ∧ ∀ y ∈ x :: r, r.foldl min x ≤ y
  | [], x => ⟨by simp, by simp⟩
  | z :: r, x => by
    obtain ⟨h1, h2⟩ := foldl_min_spec r (min x z)
    rw [List.foldl_cons]
    refine ⟨?_, fun y hy => ?_⟩
    · rcases List.mem_cons.mp h1 with e | e
      · rw [e]
        rcases Int.le_total x z with q | q
        · rw [Int.min_eq_left q]; exact List.mem_cons_self
        · rw [Int.min_eq_right q]; exact List.mem_cons_of_mem _ List.mem_cons_self
      · exact List.mem_cons_of_mem _ (List.mem_cons_of_mem _ e)
    · have h3 := h2 (min x z) List.mem_cons_self
      rcases List.mem_cons.mp hy with rfl | hy
      · exact Int.le_trans h3 (Int.min_le_left _ _)
      · rcases List.mem_cons.mp hy with rfl | hy
        · exact Int.le_trans h3 (Int.min_le_right _ _)
        · exact h2 y (List.mem_cons_of_mem _ hy)
theorem foldl_max_spec : ∀ (r : List Int) (x : Int), (r.foldl max x) ∈ x :: r ∧ ∀ y ∈ x :: r, y ≤ r.foldl max x
  | [], x => ⟨by simp, by simp⟩
  | z :: r, x => by
    obtain ⟨h1, h2⟩ := foldl_max_spec r (max x z)
    rw [List.foldl_cons]
    refine ⟨?_, fun y hy => ?_⟩
    · rcases List.mem_cons.mp h1 with e | e
      · rw [e]
        rcases Int.le_total x z with q | q
        · rw [Int.max_eq_right q]; exact List.mem_cons_of_mem _ List.mem_cons_self
        · rw [Int.max_eq_left q]; exact List.mem_cons_self
      · exact List.mem_cons_of_mem _ (List.mem_cons_of_mem _ e)
    · have h3 := h2 (max x z) List.mem_cons_self
      rcases List.mem_cons.mp hy with rfl | hy
      · exact Int.le_trans (Int.le_max_left _ _) h3
      · rcases List.mem_cons.mp hy with rfl | hy
        · exact Int.le_trans (Int.le_max_right _ _) h3
        · exact h2 y (List.mem_cons_of_mem _ hy)
theorem ld_max : ClD T (rMax T.K) fMax := by
  intro B H vs ds d Q ie hv e k
  unfold fMax at e
  split at e
  · obtain ⟨ns, h1, h2⟩ := bind1 e
    have e1 := ints_eq h1
    subst e1
    obtain ⟨v, rfl, h⟩ := rps1 hv
    obtain ⟨a, ys, rfl, h3, h4⟩ := rp_list h
    have e2 := dp_ints h4
    subst e2
    cases ns with
    | nil => cases h2
    | cons x r =>
      cases h2
      refine ⟨a, x :: r, rfl, ex_l ie h3, Nat.succ_pos _, fun m m1 m2 => ?_⟩
      obtain ⟨s1, s2⟩ := foldl_max_spec r x
      have e3 : m = r.foldl max x := Int.le_antisymm (s2 m m1) (m2 _ s1)
      subst e3
      exact k _ B H (Grow.refl ie) (.inl (.int _))
  · cases e
theorem ld_min : ClD T (rMin T.K) fMin := by
  intro B H vs ds d Q ie hv e k
  unfold fMin at e
  split at e
  · obtain ⟨ns, h1, h2⟩ := bind1 e
    have e1 := ints_eq h1
    subst e1
    obtain ⟨v, rfl, h⟩ := rps1 hv
    obtain ⟨a, ys, rfl, h3, h4⟩ := rp_list h
    have e2 := dp_ints h4
    subst e2
    cases ns with
    | nil => cases h2
    | cons x r =>
      cases h2
      refine ⟨a, x :: r, rfl, ex_l ie h3, Nat.succ_pos _, fun m m1 m2 => ?_⟩
      obtain ⟨s1, s2⟩ := foldl_min_spec r x
      have e3 : m = r.foldl min x := Int.le_antisymm (m2 _ s1) (s2 m m1)
      subst e3
      exact k _ B H (Grow.refl ie) (.inl (.int _))
  · cases e
theorem ld_all : ClD T (rAll T.K) fAll := by
  intro B H vs ds d Q ie hv e k
  unfold fAll at e
  split at e
  · obtain ⟨ns, h1, rfl⟩ := map1 e
    have e1 := bools_eq h1
    subst e1
    obtain ⟨v, rfl, h⟩ := rps1 hv
    obtain ⟨a, ys, rfl, h3, h4⟩ := rp_list h
    have e2 := dp_bools h4
    subst e2
    exact ⟨a, ns, rfl, ex_l ie h3, k _ B H (Grow.refl ie) (.inl (.bl _))⟩
  · cases e
theorem ld_any : ClD T (rAny T.K) fAny := by
  intro B H vs ds d Q ie hv e k
  unfold fAny at e
  split at e
  · obtain ⟨ns, h1, rfl⟩ := map1 e
    have e1 := bools_eq h1
    subst e1
    obtain ⟨v, rfl, h⟩ := rps1 hv
    obtain ⟨a, ys, rfl, h3, h4⟩ := rp_list h
    have e2 := dp_bools h4
    subst e2
    exact ⟨a, ns, rfl, ex_l ie h3, k _ B H (Grow.refl ie) (.inl (.bl _))⟩
  · cases e
theorem ld_list : ClD T (fun xs H Q => ∃ p ys, xs = [.ref p] ∧ (SqL T.K H p ys ∨ SqT T.K H p ys) ∧ ∀ l, H l = none → Q (.ref l) (upd H l (.lst ys))) fList := by
  intro B H vs ds d Q ie hv e k
  unfold fList at e
  split at e
  · cases e
    obtain ⟨v, rfl, h⟩ := rps1 hv
    obtain ⟨a, ys, rfl, h1, h2⟩ := rp_list h
    refine ⟨a, ys, rfl, .inl (ex_l ie h1), fun l nl => ?_⟩
    obtain ⟨g, q⟩ := new_lst (T := T) h2 ie nl
    exact k _ _ _ g q
  · cases e
    obtain ⟨v, rfl, h⟩ := rps1 hv
    obtain ⟨a, ys, rfl, h1, h2⟩ := rp_tup h
    refine ⟨a, ys, rfl, .inr (ex_t ie h1), fun l nl => ?_⟩
    obtain ⟨g, q⟩ := new_lst (T := T) h2 ie nl
    exact k _ _ _ g q
  · cases e
theorem ld_tuple : ClD T (fun xs H Q => ∃ p ys, xs = [.ref p] ∧ ((SqL T.K H p ys ∧ ∀ l, H l = none → Q (.ref l) (upd H l (.tup ys))) ∨ (SqT T.K H p ys ∧ Q (.ref p) H))) fTuple := by
  intro B H vs ds d Q ie hv e k
  unfold fTuple at e
  split at e
  · cases e
    obtain ⟨v, rfl, h⟩ := rps1 hv
    obtain ⟨a, ys, rfl, h1, h2⟩ := rp_list h
    refine ⟨a, ys, rfl, .inl ⟨ex_l ie h1, fun l nl => ?_⟩⟩
    obtain ⟨g, q⟩ := new_tup (T := T) h2 ie nl
    exact k _ _ _ g q
  · cases e
    obtain ⟨v, rfl, h⟩ := rps1 hv
    obtain ⟨a, ys, rfl, h1, h2⟩ := rp_tup h
    exact ⟨a, ys, rfl, .inr ⟨ex_t ie h1, k _ B H (Grow.refl ie) h⟩⟩
  · cases e
end

/-! ### min(xs, default=d) -/
def rMinD (K : PySem.W.Frag) : List V → List V → Hp → VK → Prop := fun vs zs H Q => ∃ (a : Addr) (ns : List Int) (d : Int), vs = [V.ref a] ∧ zs = [V.int d] ∧ SqL K H a (ns.map V.int) ∧ Q (.int (match ns with | [] => d | x :: r => r.foldl min x)) H
theorem dpI {K : PySem.W.Frag} {H : Hp} : ∀ ns : List Int, DpAll K H (ns.map V.int) (ns.map PyData.int)
  | [] => .nil
  | n :: ns => .cons (.int n) (dpI ns)
theorem cr_minD {X : Cx} (hc : X.calm = true) (hu : X.A.units + 64 < cLine) : CallRK X (.builtin "min") [Str.ofString "default"] (rMinD X.K) := by
  intro pins s σ H xs zs us ws Q I r1 r2 h
  obtain ⟨a, ns, d, rfl, rfl, hs, q⟩ := h
  obtain ⟨its, rv, hl, _⟩ := I.list hs
  rw [Vals.ref1 r1]
  obtain ⟨u, rfl, ru⟩ := Vals.one r2
  obtain ⟨t, rfl⟩ := ru
  obtain ⟨as, rd⟩ := Dp.readsAll I _ _ its (dpI ns) rv
  refine PySem.W.min_list_default (I.ok.hd hc) hl.isList (by simpa using rd) ⟨fun x hx y hy => ?_, fun x hx => ?_⟩ (by rw [PySem.W.depth_ints]; omega) (fun e h' tk hk => ?_) fun y ys i v h' tk bs e hi hr hk => ?_
  · obtain ⟨i, _, rfl⟩ := List.mem_map.mp hx
    obtain ⟨j, _, rfl⟩ := List.mem_map.mp hy
    rfl
  · obtain ⟨i, _, rfl⟩ := List.mem_map.mp hx
    exact fun z => by cases z
  · have e' : ns = [] := List.map_eq_nil_iff.mp e
    subst e'
    exact ⟨.int d, H, I.kept hk, ⟨t, rfl⟩, q⟩
  · cases ns with
    | nil => cases e
    | cons x r =>
      rw [List.map_cons] at e
      cases e
      rw [PySem.W.minD_ints] at hr
      cases hr
      exact ⟨.int _, H, I.kept hk, ⟨_, rfl⟩, q⟩
end Sk
/-! SkLay4: signs, slices, tests, calls of defs -/
namespace Sk
open PySem PySem.Spec PyProof.Rows L2 Evl
section
variable {X : Cx} {a b c e : Expr} {es : List Expr} {fa fb fc : FE} {ga gb : FA} {ta tb : FT} {pos : Pos} {rest : List Expr}
theorem d_minD {p : Pos} {kpos : Pos} {j : Nat} {cp : Pos} {i : Int} (hc : X.calm = true) (hu : X.A.units + 64 < cLine) (hg : Gl X "min") (hm : X.mg "min" = none) (ha : PED X false e fa) (hs : starEach [e] X.env = (false, eval e X.env) :: starEach [] X.env := by rfl)
    (he : backTo pos (starEach (e :: []) X.env) = (false, eval e X.env) :: backTo pos (starEach [] X.env) := by rfl) (hpl : (backTo pos (starEach (e :: []) X.env)).any (·.1) = false := by rfl)
    (hall : (backToKw pos (keywordEach [⟨some "default", .Constant (.int i) j cp, kpos⟩] X.env)).all (·.1.isSome) = true := by rfl) (hnone : (backToKw pos (keywordEach [⟨some "default", .Constant (.int i) j cp, kpos⟩] X.env)).any (·.1.isNone) = false := by rfl)
    (hks : (backToKw pos (keywordEach [⟨some "default", .Constant (.int i) j cp, kpos⟩] X.env)).filterMap (·.1) = [Str.ofString "default"] := by rfl) :
    PED X false (.Call (.Name "min" p) [e] [⟨some "default", .Constant (.int i) j cp, kpos⟩] pos) (eF fMinD (aCons fa (aCons (eC (.int i)) aNil))) :=
  pe_imp (pe_callBK (cr_minD hc hu) hg hm (by decide +kernel) (a_cons ha a_nil hs) (pk_cons pe_int pk_nil) (by decide) (by decide) he hpl hall hnone hks) fun σ H Q ⟨B, r, d, ie, en, hf, k⟩ => by
    obtain ⟨xs, h1, h2⟩ := bind1 hf
    obtain ⟨x, ys, h3, h4, h5⟩ := bind2 h1
    cases h5
    cases h4
    unfold fMinD at h2
    split at h2
    · rename_i q
      cases q
      obtain ⟨ns, h6, h7⟩ := bind1 h2
      have e1 := ints_eq h6
      subst e1
      refine ⟨B, r, _, ie, en, (show aCons fa aNil r = some [.list (ns.map .int)] by unfold aCons; rw [h3]; rfl), fun vs B1 H1 g1 q1 => ?_⟩
      obtain ⟨v, rfl, h⟩ := rps1 q1
      obtain ⟨p', ys, rfl, h8, h9⟩ := rp_list h
      have e2 := dp_ints h9
      subst e2
      show ∃ _, _
      refine ⟨p', ns, i, rfl, rfl, ex_l g1.i h8, ?_⟩
      cases ns with
      | nil =>
        cases h7
        exact k _ _ _ g1 (.inl (.int _))
      | cons y ys =>
        cases h7
        exact k _ _ _ g1 (.inl (.int _))
    · cases h2
theorem d_neg (ha : PED X false a fa) : PED X false (.UnaryOp .USub a pos) (eU oNeg fa) := pe_imp (pe_un un_neg ha) fun σ H Q ⟨B, r, d, ie, en, hf, k⟩ => by
  obtain ⟨x, h1, h2⟩ := bind1 hf
  unfold oNeg at h2
  split at h2
  · cases h2
    exact ⟨B, r, _, ie, en, h1, fun v B1 H1 g1 q1 => ⟨_, rp_int q1, k _ _ _ g1 (.inl (.int _))⟩⟩
  · cases h2
theorem o_no : POD X none oNo := ⟨fun pins s σ H Q I ⟨B, r, o, ie, en, hf, k⟩ => by
  cases hf
  exact (po_none (X := X)).run pins s σ H Q I (k B H (Grow.refl ie))⟩
theorem o_some (ha : PED X false a fa) : POD X (some a) (oSome fa) := ⟨fun pins s σ H Q I ⟨B, r, o, ie, en, hf, k⟩ => by
  refine (po_some ha).run pins s σ H Q I ?_
  obtain ⟨x, h1, h2⟩ := bind1 hf
  split at h2
  · cases h2
    exact ⟨B, r, _, ie, en, h1, fun v B1 H1 g1 q1 => ⟨_, rp_int q1, k _ _ g1⟩⟩
  · cases h2⟩
theorem clip_eq' (n d : Nat) (o : Option Int) : clipN n d o = HT.sIx n d o := by
  cases o with
  | none => rfl
  | some v =>
    show (if v < 0 then (v + n).toNat else min v.toNat n) = HT.sIx n d (some v)
    have h := HT.clip_eq v n d
    by_cases hv : v < 0
    · rw [if_pos hv] at h ⊢
      omega
    · rw [if_neg hv] at h ⊢
      omega
theorem d_cut {lo hi : Option Expr} {fl fh : FO} {p2 : Pos} (ha : PED X false a fa) (hl : POD X lo fl) (hh : POD X hi fh) : PED X false (.Subscript a (.Slice lo hi none p2) pos) (eCut fa fl fh) :=
  pe_imp (pe_slice sl_list ha hl hh) fun σ H Q ⟨B, r, d, ie, en, hf, k⟩ => by
    obtain ⟨x, h1, h0⟩ := bind1 hf
    obtain ⟨l, u, h2, h3, h4⟩ := bind2 h0
    split at h4
    · cases h4
      refine ⟨B, r, _, ie, en, h1, fun v B1 H1 g1 q1 => ⟨B1, r, l, g1.i, en.mono g1.b, h2, fun B2 H2 g2 => ⟨B2, r, u, g2.i, (en.mono g1.b).mono g2.b, h3, fun B3 H3 g3 => ?_⟩⟩⟩
      have g := g1.trans (g2.trans g3)
      obtain ⟨p', ys, rfl, h8, h9⟩ := rp_list (Rp.mono (g2.trans g3).b q1)
      refine ⟨p', ys, rfl, ex_l g3.i h8, fun p np => ?_⟩
      have e1 : L2.cutV ys l u = (ys.drop (clipN ys.length 0 l)).take (clipN ys.length ys.length u - clipN ys.length 0 l) := by
        unfold L2.cutV
        rw [clip_eq', clip_eq']
      rw [e1, h9.len]
      obtain ⟨g4, q⟩ := new_lst (T := kit X) ((h9.drop (clipN _ 0 l)).take (clipN _ _ u - clipN _ 0 l)) g3.i np
      exact k _ _ _ (g.trans g4) q
    · cases h4

/-! ### tests -/
theorem dp_empty {K : PySem.W.Frag} {B : Hp} {vs : List V} {ds : List D} (h : DpAll K B vs ds) : vs.isEmpty = ds.isEmpty := by
  cases h <;> rfl
theorem t_chain {op op' : CmpOp} {r r' : R2} {g g' : D → D → Option Bool} (ho : OpR X (compareOp op) r) (ho' : OpR X (compareOp op') r') (hd : CmD (kit X) r g) (hd' : CmD (kit X) r' g') (ha : PED X false a fa) (hb : PED X false b fb) (hc : PED X false c fc)
    (h : ∀ {ta tb tc : TE}, PE X a ta → PE X b tb → PE X c tc → PT X (.Compare a [op, op'] [b, c] pos) (tTest (tChain r r' ta tb tc))) : PTD X (.Compare a [op, op'] [b, c] pos) (tCh g g' fa fb fc) :=
  pt_imp (h ha hb hc) fun σ H Q ⟨B, ρ, z, ie, en, hf, k⟩ => chain_core hd hd' ie en hf fun B' H' g => ⟨z, rfl, k B' H' g⟩
theorem d_chain {op op' : CmpOp} {r r' : R2} {g g' : D → D → Option Bool} (hd : CmD (kit X) r g) (hd' : CmD (kit X) r' g') (ha : PED X false a fa) (hb : PED X false b fb) (hc : PED X false c fc)
    (h : ∀ {ta tb tc : TE}, PE X a ta → PE X b tb → PE X c tc → PE X (.Compare a [op, op'] [b, c] pos) (tChain r r' ta tb tc)) : PED X false (.Compare a [op, op'] [b, c] pos) (eT (tCh g g' fa fb fc)) :=
  pe_imp (h ha hb hc) fun σ H Q ⟨B, ρ, d, ie, en, hf, k⟩ => by
    obtain ⟨z, h0, rfl⟩ := map1 hf
    exact chain_core hd hd' ie en h0 fun B' H' g => k _ B' H' g (.inl (.bl z))
/-- a value's truth -/
theorem t_tr (ha : PED X false a fa) (he : ∀ whole, isTrue a X.env whole = (do let v ← whole; standAt a.pos; holding [v] (truthy v)) := by intro _; rfl) : PTD X a (tTr fa) :=
  pt_imp (pt_truth ha he) fun σ H Q ⟨B, r, d, ie, en, hf, k⟩ => by
    obtain ⟨x, h1, h2⟩ := bind1 hf
    refine ⟨B, r, x, ie, en, h1, fun v B1 H1 g1 q1 => ?_⟩
    unfold truth at h2
    split at h2
    · cases h2
      rw [rp_bool q1]
      exact ⟨_, rfl, k _ _ g1⟩
    · cases h2
      obtain ⟨p, ys, rfl, h8, h9⟩ := rp_list q1
      refine ⟨_, .inl ⟨ys, ex_l g1.i h8, rfl⟩, ?_⟩
      rw [dp_empty h9]
      exact k _ _ g1
    · cases h2
theorem w_and1 (ha : PTD X a ta) : PWD X (.BoolOp .And [a] pos) ta := pw_and1 ha
theorem w_or1 (ha : PTD X a ta) : PWD X (.BoolOp .Or [a] pos) ta := pw_or1 ha
theorem w_and (ha : PTD X a ta) (hb : PWD X (.BoolOp .And (b :: rest) pos) tb) : PWD X (.BoolOp .And (a :: b :: rest) pos) (tAnd ta tb) :=
  pw_imp (pw_and ha hb) fun σ H Q ⟨B, r, z, ie, en, hf, k⟩ => by
    obtain ⟨x, h1, h2⟩ := bind1 hf
    refine ⟨B, r, x, ie, en, h1, fun B1 H1 g1 => ?_⟩
    cases x with
    | true =>
      rw [if_pos rfl] at h2 ⊢
      exact ⟨B1, r, z, g1.i, en.mono g1.b, h2, fun B2 H2 g2 => k _ _ (g1.trans g2)⟩
    | false =>
      cases h2
      exact k _ _ g1
theorem w_or (ha : PTD X a ta) (hb : PWD X (.BoolOp .Or (b :: rest) pos) tb) : PWD X (.BoolOp .Or (a :: b :: rest) pos) (tOr ta tb) :=
  pw_imp (pw_or ha hb) fun σ H Q ⟨B, r, z, ie, en, hf, k⟩ => by
    obtain ⟨x, h1, h2⟩ := bind1 hf
    refine ⟨B, r, x, ie, en, h1, fun B1 H1 g1 => ?_⟩
    cases x with
    | true =>
      cases h2
      exact k _ _ g1
    | false =>
      rw [if_neg Bool.false_ne_true] at h2 ⊢
      exact ⟨B1, r, z, g1.i, en.mono g1.b, h2, fun B2 H2 g2 => k _ _ (g1.trans g2)⟩
theorem t_not (ha : PTD X a ta) : PTD X (.UnaryOp .Not a pos) (tNot ta) := pt_imp (pt_not ha) fun σ H Q ⟨B, r, z, ie, en, hf, k⟩ => by
  obtain ⟨x, h1, rfl⟩ := map1 hf
  exact ⟨B, r, x, ie, en, h1, fun B1 H1 g1 => k _ _ g1⟩
/-- a or b as a value -/
theorem d_or (ha : PED X false a fa) (hb : PED X false (.BoolOp .Or (b :: rest) pos) fb) : PED X false (.BoolOp .Or (a :: b :: rest) pos) (eOr fa fb) :=
  pe_imp (pe_or ha hb) fun σ H Q ⟨B, r, d, ie, en, hf, k⟩ => by
    obtain ⟨x, h1, h2⟩ := bind1 hf
    refine ⟨B, r, x, ie, en, h1, fun v B1 H1 g1 q1 => ?_⟩
    split at h2
    · cases h2
      exact ⟨true, rp_bool q1, k _ _ _ g1 (.inl (.bl true))⟩
    · refine ⟨false, rp_bool q1, ?_⟩
      rw [if_neg Bool.false_ne_true]
      exact ⟨B1, r, d, g1.i, en.mono g1.b, h2, fun u B2 H2 g2 q2 => k _ _ _ (g1.trans g2) q2⟩
    · cases h2
theorem d_one {op} (h : PED X false a fa) : PED X false (.BoolOp op [a] pos) fa := pe_one h

/-! ### calls of defs -/
/-- what a def yields -/
def spD (T : Kit) (fr : Bool) (F : List D → Option D) : Sp := fun vs H Q _ => ∃ B ds d, Ex B H ∧ Rps T B vs ds ∧ F ds = some d ∧ ∀ v B' H', Grow B H B' H' → Res T fr H B' H' v d → Q v H'
theorem res_up {T : Kit} {fr : Bool} {B H B1 H1 B2 H2 : Hp} {v : V} {d : D} (g : Grow B H B1 H1) (h : Res T fr H1 B2 H2 v d) : Res T fr H B2 H2 v d := by
  cases fr with
  | false => exact h
  | true =>
    obtain ⟨p, h1, h2, h3⟩ := h
    exact ⟨p, h1, g.h.back h2, h3⟩
theorem d_call {fr : Bool} {k : Nat} {f : Addr} {fd : FuncData} {ps : List Str} {F : List D → Option D} {x : Str} {p : Pos} (G : FnOk X.prog X.w X.K X.mg X.base CX0 k f fd ps (spD (kit X) fr F)) (hr : Room k X.A) (hg : Gl X x) (hm : X.mg x = some (.ref f)) (hk : PySem.W.keepIn X.K (.ref f) = true)
    (hb : Binds X.K fd ps []) (ha : PAD X (e :: es) ga) (hdb : (x == ("__debug__" : Str)) = false := by decide) (he : starEach (e :: es) X.env = (false, eval e X.env) :: starEach es X.env := by rfl) (hpl : (backTo pos (starEach es X.env)).any (·.1) = false := by rfl) :
    PED X fr (.Call (.Name x p) (e :: es) [] pos) (eF F ga) := pe_imp (pe_call G hr hg hm hk hb .nil pass0 ha hdb he hpl) fun σ H Q ⟨B, r, d, ie, en, hf, k⟩ => by
  obtain ⟨xs, h1, h2⟩ := bind1 hf
  refine ⟨B, r, xs, ie, en, h1, fun vs B1 H1 g1 q1 => ⟨B1, xs, d, g1.i, by rw [List.append_nil]; exact q1, h2, fun v B2 H2 g2 q2 => k v B2 H2 (g1.trans g2) (res_up g1 q2)⟩⟩
theorem rps_app {T : Kit} {B : Hp} : ∀ {vs us : List V} {ds es : List D}, Rps T B vs ds → Rps T B us es → Rps T B (vs ++ us) (ds ++ es)
  | _, _, _, _, .nil, h => h
  | _, _, _, _, .cons h t, s => .cons h (rps_app t s)
/-- keywords' values, as arguments -/
structure PKD (X : Cx) (kws : List Keyword) (g : FA) : Prop where
  pk : PK X kws (rdA (kit X) g)
theorem k_nil : PKD X [] aNil := ⟨⟨fun pos pins s σ H Q I ⟨B, r, ds, ie, en, hf, k⟩ => by
  cases hf
  exact (pk_nil (X := X)).run pos pins s σ H Q I (k [] B H (Grow.refl ie) .nil)⟩⟩
theorem k_cons {kws : List Keyword} {nm : Option Str} {kpos : Pos} (ha : PED X false e fa) (hr : PKD X kws ga) : PKD X (⟨nm, e, kpos⟩ :: kws) (aCons fa ga) := ⟨⟨fun pos pins s σ H Q I ⟨B, r, ds, ie, en, hf, k⟩ => by
  refine (pk_cons ha hr.pk).run pos pins s σ H Q I ?_
  obtain ⟨x, xs, h1, h2, h3⟩ := bind2 hf
  cases h3
  exact ⟨B, r, x, ie, en, h1, fun v B1 H1 g1 q1 => ⟨B1, r, xs, g1.i, en.mono g1.b, h2, fun vs B2 H2 g2 q2 => k (v :: vs) B2 H2 (g1.trans g2) (.cons (Rp.mono g2.b q1) q2)⟩⟩⟩⟩
theorem aLen {n : Nat} {f : FE} (h : ∀ r xs, ga r = some xs → xs.length = n) : ∀ r xs, aCons f ga r = some xs → xs.length = n + 1 := fun r xs e => by
  obtain ⟨x, ys, h1, h2, h3⟩ := bind2 e
  cases h3
  exact congrArg Nat.succ (h r ys h2)
theorem aLen0 : ∀ (r : Rho) (xs : List D), aNil r = some xs → xs.length = 0 := fun r xs e => by
  cases e; rfl
theorem d_callK {fr : Bool} {k n : Nat} {f : Addr} {fd : FuncData} {ps ks : List Str} {F : List D → Option D} {x : Str} {p : Pos} {kws : List Keyword} (G : FnOk X.prog X.w X.K X.mg X.base CX0 k f fd ps (spD (kit X) fr F)) (hr : Room k X.A) (hg : Gl X x) (hm : X.mg x = some (.ref f)) (hk : PySem.W.keepIn X.K (.ref f) = true)
    (hb : KBn X.K fd ps n ks (fun us ws => us ++ ws) (fun vs zs => vs ++ zs)) (ha : PAD X (e :: es) ga) (hkw : PKD X kws gb) (l1 : ∀ r xs, ga r = some xs → xs.length = n) (l2 : ∀ r xs, gb r = some xs → xs.length = ks.length)
    (hall : (backToKw pos (keywordEach kws X.env)).all (·.1.isSome) = true := by rfl) (hks : (backToKw pos (keywordEach kws X.env)).filterMap (·.1) = ks := by rfl)
    (hdb : (x == ("__debug__" : Str)) = false := by decide) (he : starEach (e :: es) X.env = (false, eval e X.env) :: starEach es X.env := by rfl)
    (hpl : ((backTo pos (starEach (e :: es) X.env)).any (·.1) || (backToKw pos (keywordEach kws X.env)).any (·.1.isNone)) = false := by rfl) :
    PED X fr (.Call (.Name x p) (e :: es) kws pos) (eF F (aApp ga gb)) := pe_imp (pe_callN G hr hg hm hk hb pass0 ha hkw.pk hall hks hdb he hpl) fun σ H Q ⟨B, r, d, ie, en, hf, k⟩ => by
  obtain ⟨xs, h1, h2⟩ := bind1 hf
  obtain ⟨ys, zs, h3, h4, h5⟩ := bind2 h1
  cases h5
  refine ⟨B, r, ys, ie, en, h3, fun vs B1 H1 g1 q1 => ⟨B1, r, zs, g1.i, en.mono g1.b, h4, fun us B2 H2 g2 q2 => ?_⟩⟩
  have g := g1.trans g2
  refine ⟨q1.length.trans (l1 r ys h3), q2.length.trans (l2 r zs h4), B2, ys ++ zs, d, g.i, rps_app (Rps.mono g2.b q1) q2, h2, fun v B3 H3 g3 q3 => k v B3 H3 (g.trans g3) (res_up g q3)⟩
end
end Sk
/-! SkLay5: targets, what is walked, list comprehensions -/
namespace Sk
open PySem PySem.Spec PyProof.Rows L2 Evl

/-! ### targets -/
def putsS : List Nat → List V → L2.St → L2.St
  | i :: is, v :: vs, σ => putsS is vs (σ.set i (some v))
  | _, _, σ => σ
def rdG (T : Kit) (tg : Tg) : TG := fun v σ H Q => match tg with
  | .n i => Q (σ.set i (some v)) H
  | .t is => ∃ a xs, v = .ref a ∧ SqT T.K H a xs ∧ xs.length = is.length ∧ Q (putsS is xs σ) H
def rdGs (is : List Nat) : TGs := fun vs σ H Q => vs.length = is.length ∧ Q (putsS is vs σ) H
abbrev PGD (X : Cx) (e : Expr) (tg : Tg) : Prop := PG X e (rdG (kit X) tg)
theorem putsS_len : ∀ (is : List Nat) (vs : List V) (σ : L2.St), (putsS is vs σ).length = σ.length
  | [], _, _ => by simp [putsS]
  | _ :: _, [], _ => by simp [putsS]
  | i :: is, v :: vs, σ => by rw [putsS, putsS_len is vs, List.length_set]
theorem putsS_off : ∀ (is : List Nat) (vs : List V) (σ : L2.St) (j : Nat), j ∉ is → (putsS is vs σ)[j]? = σ[j]?
  | [], _, _, _, _ => by simp [putsS]
  | _ :: _, [], _, _, _ => by simp [putsS]
  | i :: is, v :: vs, σ, j, h => by
    simp only [List.mem_cons, not_or] at h
    rw [putsS, putsS_off is vs _ j h.2, List.getElem?_set_ne (Ne.symm h.1)]
theorem wipe_get (σ : L2.St) : ∀ (vs : List Nat) (j : Nat), (wipe σ vs)[j]? = if j ∈ vs then (σ[j]?).map (fun _ => none) else σ[j]?
  | [], j => by simp [wipe]
  | v :: vs, j => by
    rw [wipe]
    have ih := wipe_get σ vs j
    by_cases e : v = j
    · subst e
      rw [if_pos List.mem_cons_self]
      by_cases hl : v < σ.length
      · rw [List.getElem?_set_self (by rw [wipe_length]; exact hl), List.getElem?_eq_getElem hl]
        rfl
      · rw [List.getElem?_eq_none (by rw [List.length_set, wipe_length]; omega), List.getElem?_eq_none (by omega)]
        rfl
    · rw [List.getElem?_set_ne e, ih]
      have : (j ∈ v :: vs) ↔ j ∈ vs := by simp [Ne.symm e]
      simp only [this]
theorem wipe_same {σ σ' : L2.St} {vs : List Nat} (h : ∀ j, j ∉ vs → σ'[j]? = σ[j]?) (hl : σ'.length = σ.length) : wipe σ' vs = wipe σ vs := by
  apply List.ext_getElem?
  intro j
  rw [wipe_get, wipe_get]
  by_cases hj : j ∈ vs
  · rw [if_pos hj, if_pos hj]
    by_cases h2 : j < σ.length
    · rw [List.getElem?_eq_getElem h2, List.getElem?_eq_getElem (by omega)]
      rfl
    · rw [List.getElem?_eq_none (by omega), List.getElem?_eq_none (by omega)]
  · rw [if_neg hj, if_neg hj, h j hj]
/-- what is known of the slots but these -/
structure EnvOff (T : Kit) (σ : L2.St) (B : Hp) (r : Rho) (S : List Nat) : Prop where
  len : σ.length = r.length
  at_ : ∀ (i : Nat) (d : D), i ∉ S → r[i]? = some (some d) → ∃ v, σ[i]? = some (some v) ∧ Rp T B v d
section
variable {T : Kit} {B H : Hp}
theorem EnvI.off {σ : L2.St} {r : Rho} (h : EnvI T σ B r) (S : List Nat) : EnvOff T (wipe σ S) B r S := ⟨by rw [wipe_length]; exact h.len, fun i d hi e => by
  rw [wipe_get, if_neg hi]
  exact h.at_ i d e⟩
theorem EnvOff.nil {σ : L2.St} {r : Rho} (h : EnvOff T σ B r []) : EnvI T σ B r := ⟨h.len, fun i d e => h.at_ i d (by simp) e⟩
theorem EnvOff.set {σ : L2.St} {r : Rho} {i : Nat} {S : List Nat} {v : V} {d : D} (h : EnvOff T σ B r (i :: S)) (q : Rp T B v d) : EnvOff T (σ.set i (some v)) B (r.set i (some d)) S :=
  ⟨by rw [List.length_set, List.length_set]; exact h.len, fun j e hj he => by
    by_cases c : i = j
    · subst c
      by_cases hl : i < r.length
      · rw [List.getElem?_set_self hl] at he
        cases he
        exact ⟨v, List.getElem?_set_self (by rw [h.len]; exact hl), q⟩
      · rw [List.getElem?_eq_none (by rw [List.length_set]; omega)] at he
        cases he
    · rw [List.getElem?_set_ne c] at he ⊢
      exact h.at_ j e (by simp only [List.mem_cons, not_or]; exact ⟨Ne.symm c, hj⟩) he⟩
theorem puts_env : ∀ (is : List Nat) (xs : List V) (ds : List D) (σ : L2.St) (r r' : Rho), DpAll T.K B xs ds → EnvOff T σ B r is → putsE is ds r = some r' → EnvI T (putsS is xs σ) B r' ∧ xs.length = is.length
  | [], _, [], σ, r, r', h, en, e => by
    cases h
    cases e
    exact ⟨en.nil, rfl⟩
  | i :: is, _, d :: ds, σ, r, r', h, en, e => by
    cases h with
    | cons h1 h2 =>
      rw [putsE] at e
      obtain ⟨q1, q2⟩ := puts_env is _ ds _ _ r' h2 (en.set (.inl h1)) e
      exact ⟨q1, congrArg Nat.succ q2⟩
  | [], _, _ :: _, _, _, _, _, _, e => by cases e
  | _ :: _, _, [], _, _, _, _, _, e => by cases e
/-- an item goes to its targets, in a comprehension -/
theorem tg_env {tg : Tg} {σ : L2.St} {r r' : Rho} {v : V} {d : D} {Q : L2.St → Hp → Prop} (ie : Ex B H) (en : EnvI T σ B r) (hd : Dp T.K B v d) (e : tg.env d r = some r')
    (k : ∀ σ', EnvI T σ' B r' → wipe σ' tg.ix = wipe σ tg.ix → Q σ' H) : rdG T tg v (wipe σ tg.ix) H Q := by
  cases tg with
  | n i =>
    cases e
    have en1 : EnvOff T (wipe σ [i]) B r [i] := en.off [i]
    refine k _ (en1.set (.inl hd)).nil (wipe_same (fun j hj => ?_) (by rw [List.length_set, wipe_length]))
    have hne : i ≠ j := fun z => hj (by rw [← z]; exact List.mem_cons_self)
    rw [List.getElem?_set_ne hne, wipe_get, if_neg (show j ∉ (Tg.n i).ix from hj)]
  | t is =>
    cases d with
    | tuple ds =>
      have e : putsE is ds r = some r' := e
      obtain ⟨a, xs, rfl, h1, h2⟩ := rp_tup (.inl hd : Rp T B v (.tuple ds))
      have en1 : EnvOff T (wipe σ is) B r is := en.off is
      obtain ⟨q1, q2⟩ := puts_env is xs ds _ _ r' h2 en1 e
      refine ⟨a, xs, rfl, ex_t ie h1, q2, k _ q1 (wipe_same (fun j hj => ?_) (by rw [putsS_len, wipe_length]))⟩
      rw [putsS_off is xs _ j hj, wipe_get, if_neg (show j ∉ (Tg.t is).ix from hj)]
    | _ => cases e
end
section
variable {X : Cx} {e : Expr} {es : List Expr} {pos : Pos}
theorem g_n {i : Nat} {x : Str} (hN : X.N.Nodup) (hi : X.N[i]? = some x) (hx : Loc X.env.scope x) (hf : X.fn x = true ∨ X.env.scope.names.lookup x = some .local := by first | exact .inl rfl | exact .inr rfl | assumption) : PGD X (.Name x pos) (.n i) := pg_name hN hi hx hf
theorem gs_nil : PGs X [] (rdGs []) := ⟨fun pins s σ H vs us Q I r ⟨h1, h2⟩ => (pgs_nil (X := X)).run pins s σ H vs us Q I r ⟨List.eq_nil_of_length_eq_zero h1, by
  cases vs with
  | nil => exact h2
  | cons _ _ => cases h1⟩⟩
theorem gs_cons {i : Nat} {is : List Nat} (h1 : PGD X e (.n i)) (h2 : PGs X es (rdGs is)) (hs : (assignEach (e :: es) X.env).map (·.2) = assign e X.env :: (assignEach es X.env).map (·.2) := by rfl) : PGs X (e :: es) (rdGs (i :: is)) :=
  ⟨fun pins s σ H vs us Q I r ⟨q1, q2⟩ => (pgs_cons h1 h2 hs).run pins s σ H vs us Q I r (by
    cases vs with
    | nil => cases q1
    | cons v vs => exact ⟨v, vs, rfl, Nat.succ.inj q1, q2⟩)⟩
theorem g_t {is : List Nat} {k : Nat} (hc : X.calm = true) (h : PGs X es (rdGs is)) (hn : (assignEach es X.env).length = is.length := by rfl) (hst : (assignEach es X.env).findIdx? (·.1) = none := by rfl) : PGD X (.Tuple es k pos) (.t is) :=
  ⟨fun pins s σ H v u Q I r ⟨a, xs, q1, q2, q3, q4⟩ => (pg_tup hc h hn hst).run pins s σ H v u Q I r ⟨a, xs, q1, q2, q3, q3, q4⟩⟩
end

/-! ### what is walked -/
def Walk (T : Kit) (B : Hp) (J : It) (ds : List D) : Prop := ∀ H, Ex B H → J.stop ds.length H ∧ ∀ (i : Nat) (d : D), ds[i]? = some d → J.go i H ∧ ∀ v H', J.yld i H v H' → H' = H ∧ Dp T.K B v d
def rdI (T : Kit) (f : FI) : TI := fun σ H R => ∃ B r ds, Ex B H ∧ EnvI T σ B r ∧ f r = some ds ∧ ∀ J B' H', Grow B H B' H' → Walk T B' J ds → R J H'
abbrev PID (X : Cx) (tg e : Expr) (f : FI) : Prop := PI X tg e (rdI (kit X) f)
theorem pi_imp {X : Cx} {tg e : Expr} {t t' : TI} (h : PI X tg e t) (hi : ∀ σ H Q, t' σ H Q → t σ H Q) : PI X tg e t' := ⟨fun pins s σ H Q I hw => h.run pins s σ H Q I (hi _ _ _ hw)⟩
theorem walk_l {T : Kit} {B : Hp} {a : Addr} {xs : List V} {ds : List D} (h1 : SqL T.K B a xs) (h2 : DpAll T.K B xs ds) : Walk T B (Itl T.K a) ds := fun H ie =>
  ⟨⟨xs, ex_l ie h1, Nat.le_of_eq h2.len⟩, fun i d e => by
    obtain ⟨v, h3, h4⟩ := h2.get e
    refine ⟨⟨xs, v, ex_l ie h1, h3⟩, fun u H' ⟨q1, q2⟩ => ⟨q1, ?_⟩⟩
    have := q2 xs (ex_l ie h1)
    rw [h3] at this
    cases this
    exact h4⟩
theorem walk_t {T : Kit} {B : Hp} {a : Addr} {xs : List V} {ds : List D} (h1 : SqT T.K B a xs) (h2 : DpAll T.K B xs ds) : Walk T B (Itt T.K a) ds := fun H ie =>
  ⟨⟨xs, ex_t ie h1, Nat.le_of_eq h2.len⟩, fun i d e => by
    obtain ⟨v, h3, h4⟩ := h2.get e
    refine ⟨⟨xs, v, ex_t ie h1, h3⟩, fun u H' ⟨q1, q2⟩ => ⟨q1, ?_⟩⟩
    have := q2 xs (ex_t ie h1)
    rw [h3] at this
    cases this
    exact h4⟩
section
variable {X : Cx} {tg a : Expr} {fa : FE} {pos : Pos}
theorem i_L (ha : PED X false a fa) : PID X tg a (iL fa) := pi_imp (pi_list ha) fun σ H R ⟨B, r, ds, ie, en, hf, k⟩ => by
  obtain ⟨x, h1, h2⟩ := bind1 hf
  split at h2
  · cases h2
    refine ⟨B, r, _, ie, en, h1, fun v B1 H1 g1 q1 => ?_⟩
    obtain ⟨p, xs, rfl, h3, h4⟩ := rp_list q1
    exact ⟨p, rfl, ⟨xs, ex_l g1.i h3⟩, k _ B1 H1 g1 (walk_l (T := kit X) h3 h4)⟩
  · cases h2
theorem i_T (ha : PED X false a fa) : PID X tg a (iT fa) := pi_imp (pi_tup ha) fun σ H R ⟨B, r, ds, ie, en, hf, k⟩ => by
  obtain ⟨x, h1, h2⟩ := bind1 hf
  split at h2
  · cases h2
    refine ⟨B, r, _, ie, en, h1, fun v B1 H1 g1 q1 => ?_⟩
    obtain ⟨p, xs, rfl, h3, h4⟩ := rp_tup q1
    exact ⟨p, rfl, ⟨xs, ex_t g1.i h3⟩, k _ B1 H1 g1 (walk_t (T := kit X) h3 h4)⟩
  · cases h2
theorem i_R {p : Pos} (hg : Gl X "range") (hm : X.mg "range" = none) (ha : PED X false a fa) (hs : starEach [a] X.env = [(false, eval a X.env)] := by rfl) (hs2 : starEach [a] X.env = (false, eval a X.env) :: starEach [] X.env := by rfl) :
    PID X tg (.Call (.Name "range" p) [a] [] pos) (iR fa) := pi_imp (pi_range1 hg hm (a_cons ha a_nil hs2) hs) fun σ H R ⟨B, r, ds, ie, en, hf, k⟩ => by
  obtain ⟨x, h1, h2⟩ := bind1 hf
  split at h2
  · rename_i n
    split at h2
    · rename_i hc
      cases h2
      refine ⟨B, r, [.int n], ie, en, (by unfold aCons; rw [h1]; rfl), fun vs B1 H1 g1 q1 => ?_⟩
      obtain ⟨v, rfl, q2⟩ := rps1 q1
      rw [rp_int q2]
      have hL : LIM = 16777216 := rfl
      refine ⟨n, rfl, by omega, by omega, k _ B1 H1 g1 fun H2 ie2 => ⟨?_, fun i d e => ?_⟩⟩
      · show n.toNat ≤ _
        rw [List.length_map, List.length_range]
        exact Nat.le_refl _
      · rw [List.getElem?_map] at e
        obtain ⟨j, h3, rfl⟩ := map1 e
        obtain ⟨h4, h5⟩ := List.getElem?_eq_some_iff.mp h3
        rw [List.length_range] at h4
        rw [List.getElem_range] at h5
        subst h5
        refine ⟨h4, fun v H' ⟨z1, z2⟩ => ⟨z1, ?_⟩⟩
        rw [z2, Int.zero_add]
        exact .int _
    · cases h2
  · cases h2
theorem i_Rev {p : Pos} (hg : Gl X "reversed") (hm : X.mg "reversed" = none) (ha : PED X false a fa) (hs : starEach [a] X.env = [(false, eval a X.env)] := by rfl) (hs2 : starEach [a] X.env = (false, eval a X.env) :: starEach [] X.env := by rfl) :
    PID X tg (.Call (.Name "reversed" p) [a] [] pos) (Sk.iRev fa) := pi_imp (pi_reversed hg hm (a_cons ha a_nil hs2) hs) fun σ H R ⟨B, r, ds, ie, en, hf, k⟩ => by
  obtain ⟨x, h1, h2⟩ := bind1 hf
  split at h2
  · rename_i xs
    cases h2
    refine ⟨B, r, [.list xs], ie, en, (by unfold aCons; rw [h1]; rfl), fun vs B1 H1 g1 q1 => ?_⟩
    obtain ⟨v, rfl, q2⟩ := rps1 q1
    obtain ⟨p, ys, rfl, h3, h4⟩ := rp_list q2
    refine ⟨p, ys, rfl, ex_l g1.i h3, k _ B1 H1 g1 fun H2 ie2 => ?_⟩
    have hl := h4.len
    refine ⟨?_, fun i d e => ?_⟩
    · show ys.length ≤ _
      rw [List.length_reverse, hl]
      exact Nat.le_refl _
    · have hi : i < xs.length := by
        obtain ⟨q, _⟩ := List.getElem?_eq_some_iff.mp e
        rwa [List.length_reverse] at q
      rw [List.getElem?_reverse hi] at e
      obtain ⟨v, h5, h6⟩ := h4.get e
      have e2 : ys.length - 1 - i = xs.length - 1 - i := by omega
      refine ⟨⟨by omega, ys, v, ex_l ie2 h3, by rw [e2]; exact h5⟩, fun u H' ⟨z1, z2⟩ => ⟨z1, ?_⟩⟩
      have z3 := z2 ys (ex_l ie2 h3)
      rw [e2, h5] at z3
      cases z3
      exact h6
  · cases h2
end
end Sk
/-! SkLay6: list comprehensions -/
namespace Sk
open PySem PySem.Spec PyProof.Rows L2 Evl

theorem Grow.put {B1 H1 B H : Hp} {p : Addr} {o : HO} (g : Grow B1 H1 B H) (h1 : H1 p = none) (h2 : B p = none) : Grow B1 H1 B (upd H p o) :=
  ⟨g.b, g.i.upd h2, g.h.upd h1, g.n⟩
/-- what is open stays open -/
theorem Grow.keeps {B H B' H' : Hp} {p : Addr} {o : HO} (g : Grow B H B' H') (h1 : B p = none) (h2 : H p = some o) : B' p = none ∧ H' p = some o := by
  refine ⟨?_, g.h p o h2⟩
  cases q : B' p with
  | none => rfl
  | some u =>
    have := g.n p h1 (by rw [q]; exact fun z => by cases z)
    rw [h2] at this; cases this
section
variable {T : Kit}
structure LcInv (T : Kit) (tg : Tg) (tt : FT) (el : FE) (r : Rho) (xs ys : List D) (B1 H1 : Hp) (p : Addr) (i : Nat) (H : Hp) : Prop where
  ex : ∃ B2 zs acc rest, Grow B1 H1 B2 H ∧ B2 p = none ∧ H p = some (.lst acc) ∧ DpAll T.K B2 acc zs ∧ acc.length ≤ i ∧ lcGo tg tt el r (xs.drop i) = some rest ∧ zs ++ rest = ys
theorem lc_env {src : FI} {tg : Tg} {tt : FT} {el : FE} {σ : L2.St} {H B : Hp} {r : Rho} {d : D} {Q : VK} (ie : Ex B H) (en : EnvI T σ B r) (hf : eLc src tg tt el r = some d)
    (k : ∀ v B' H', Grow B H B' H' → Fresh T H B' H' v d → Q v H') : tLc (rdI T src) (rdG T tg) (rdT T tt) (rdE T false el) tg.ix σ H Q := by
  obtain ⟨xs, h1, h2⟩ := bind1 hf
  split at h2
  · rename_i hlen
    obtain ⟨ys, h3, rfl⟩ := map1 h2
    refine ⟨B, r, xs, ie, en, h1, fun J B1 H1 g1 W1 p np => ?_⟩
    refine ⟨fun i m H => m = xs.length - i ∧ i ≤ xs.length ∧ LcInv T tg tt el r xs ys B1 H1 p i H, ⟨xs.length, rfl, Nat.zero_le _, ⟨B1, [], [], ys, Grow.open g1.i np, g1.i.back np, upd_same, .nil, Nat.le_refl _, h3, rfl⟩⟩, ?_⟩
    rintro i m H2 ⟨rfl, hi, ⟨B2, zs, acc, rest, g2, nB, hp, ha, hl, hgo, hys⟩⟩
    obtain ⟨w1, w2⟩ := W1 H2 (g2.b.trans g2.i)
    by_cases hlt : i < xs.length
    · have hx : xs[i]? = some xs[i] := List.getElem?_eq_getElem hlt
      have hd : xs.drop i = xs[i] :: xs.drop (i + 1) := List.drop_eq_getElem_cons hlt
      rw [hd, lcGo] at hgo
      obtain ⟨r', h4, h5⟩ := bind1 hgo
      obtain ⟨b, h6, h7⟩ := bind1 h5
      obtain ⟨w3, w4⟩ := w2 i _ hx
      have en2 : EnvI T σ B2 r := (en.mono g1.b).mono g2.b
      refine .inr ⟨w3, fun H' => LcInv T tg tt el r xs ys B1 H1 p (i + 1) H', fun H' q => ⟨xs.length - (i + 1), by omega, rfl, hlt, q⟩, fun v H' hy => ?_⟩
      obtain ⟨rfl, hv⟩ := w4 v H' hy
      refine tg_env g2.i en2 (hv.mono g2.b) h4 fun σ' en' hw => ⟨hw, B2, r', b, g2.i, en', h6, fun B3 H3 g3 => ?_⟩
      obtain ⟨nB3, hp3⟩ := g3.keeps nB hp
      cases b with
      | false =>
        rw [if_neg Bool.false_ne_true] at h7 ⊢
        exact ⟨B3, zs, acc, rest, g2.trans g3, nB3, hp3, ha.mono g3.b, Nat.le_succ_of_le hl, h7, hys⟩
      | true =>
        rw [if_pos rfl] at h7 ⊢
        obtain ⟨y, h8, h9⟩ := bind1 h7
        split at h9
        · rename_i hnd
          obtain ⟨rest', h10, h11⟩ := bind1 h9
          cases h11
          refine ⟨B3, r', y, g3.i, en'.mono g3.b, h8, fun u B4 H4 g4 q4 => ?_⟩
          obtain ⟨nB4, hp4⟩ := g4.keeps nB3 hp3
          have gg := g2.trans (g3.trans g4)
          have hL := lim_eq
          refine ⟨acc, hp4, by omega, ⟨B4, zs ++ [y], acc ++ [u], rest', gg.put np nB4, nB4, upd_same, (ha.mono (g3.trans g4).b).app (.cons (Rp.dp q4 hnd) .nil), ?_, h10, ?_⟩⟩
          · rw [List.length_append]
            show acc.length + 1 ≤ i + 1
            omega
          · rw [List.append_assoc]
            exact hys
        · cases h9
    · have e : i = xs.length := by omega
      subst e
      rw [List.drop_length, lcGo] at hgo
      cases hgo
      rw [List.append_nil] at hys
      subst hys
      exact .inl ⟨w1, k _ B2 H2 (g1.trans g2) ⟨p, rfl, g1.h.back np, nB, .inl ⟨zs, acc, rfl, hp, ha⟩⟩⟩
  · cases h2
end
abbrev PTsD (X : Cx) (ifs : List Expr) (f : FT) : Prop := PTs X ifs (rdT (kit X) f)
theorem ts_nil {X : Cx} : PTsD X [] tTrue := ⟨fun pins s σ H Q I ⟨B, r, b, ie, en, hf, k⟩ => by
  cases hf
  exact (pts_nil (X := X)).run pins s σ H Q I (k B H (Grow.refl ie))⟩
theorem ts_one {X : Cx} {c : Expr} {t : FT} (h : PTD X c t) : PTsD X [c] t := pts_one h
section
variable {X : Cx} {elt tg iter : Expr} {ifs : List Expr} {scope : Scope} {own : List (Str × Nat)} {pos spos : Pos} {src : FI} {tgd : Tg} {tt : FT} {el : FE}
/-- [elt for tg in iter if ..], open to change -/
theorem d_lc (hc : X.calm = true) (hN : X.N.Nodup) (hi : PID X tg iter src) (ok : BlkOk X.N X.env.scope scope own) (hix : own.map (·.2) = tgd.ix)
    (hg : ∀ (s : Shared) (H : Hp) (C : Addr) (cl : List (Str × Addr)) (fp : List Addr), PGD (X.blk s H scope (compEnvC scope cl C X.env) fp) tg tgd)
    (ht : ∀ (s : Shared) (H : Hp) (C : Addr) (cl : List (Str × Addr)) (fp : List Addr), PTsD (X.blk s H scope (compEnvC scope cl C X.env) fp) ifs tt)
    (he : ∀ (s : Shared) (H : Hp) (C : Addr) (cl : List (Str × Addr)) (fp : List Addr), PED (X.blk s H scope (compEnvC scope cl C X.env) fp) false elt el)
    (hs : ∀ x, foldedSetIterable iter X.env x = pure x := by intro _; rfl) : PED X true (.ListComp elt [⟨tg, iter, ifs, 0⟩] scope pos) (eLc src tgd tt el) :=
  pe_imp (pe_lc hc hN hi ok hg ht he hs) fun σ H Q ⟨B, r, d, ie, en, hf, k⟩ => by
    rw [hix]
    exact lc_env (T := kit X) ie en hf k
end
end Sk
/-! SkLay7: statements -/
namespace Sk
open PySem PySem.Spec PyProof.Rows L2 Evl

/-- the slots and heaps within a def that began at B0, H0 -/
structure SOk (T : Kit) (B0 H0 : Hp) (σ : L2.St) (B H : Hp) (g : Gam) : Prop where
  gr : Grow B0 H0 B H
  len : σ.length = g.length
  im : ∀ (i : Nat) (d : D), g[i]? = some (.im d) → ∃ v, σ[i]? = some (some v) ∧ Rp T B v d
  mu : ∀ (i : Nat) (d : D), g[i]? = some (.mu d) → ∃ p, σ[i]? = some (some (.ref p)) ∧ H0 p = none ∧ B p = none ∧ Own T B (H p) p d
  ap : ∀ (i j : Nat) (d e : D) (p : Addr), g[i]? = some (.mu d) → g[j]? = some (.mu e) → σ[i]? = some (some (.ref p)) → σ[j]? = some (some (.ref p)) → i = j
section
variable {T : Kit} {B0 H0 B H B' H' : Hp} {σ : L2.St} {g : Gam}
theorem SOk.grow (h : SOk T B0 H0 σ B H g) (x : Grow B H B' H') : SOk T B0 H0 σ B' H' g where
  gr := h.gr.trans x
  len := h.len
  im := fun i d e => let ⟨v, h1, h2⟩ := h.im i d e; ⟨v, h1, h2.mono x.b⟩
  mu := fun i d e => by
    obtain ⟨p, h1, h2, h3, h4⟩ := h.mu i d e
    obtain ⟨o, ho⟩ := h4.ex
    obtain ⟨h5, h6⟩ := x.keeps h3 ho
    rw [ho] at h4
    exact ⟨p, h1, h2, h5, by rw [h6]; exact h4.mono x.b⟩
  ap := h.ap
theorem SOk.heap (h : SOk T B0 H0 σ B H g) (x : Ex H H') : SOk T B0 H0 σ B H' g :=
  h.grow ⟨Ex.refl _, h.gr.i.trans x, x, fun a h1 h2 => absurd h1 h2⟩
theorem SOk.envI (h : SOk T B0 H0 σ B H g) : EnvI T σ B (vI g) := ⟨by rw [h.len]; simp [vI], fun i d e => by
  unfold vI at e
  rw [List.getElem?_map] at e
  obtain ⟨s, h1, h2⟩ := map1 e
  cases s with
  | im d' => cases h2; exact h.im i d h1
  | mu d' => cases h2
  | no => cases h2⟩
open Classical in
/-- all that is held, as if it did not change any more -/
noncomputable def full (σ : L2.St) (g : Gam) (B H : Hp) : Hp := fun a => if ∃ (i : Nat) (d : D), g[i]? = some (.mu d) ∧ σ[i]? = some (some (.ref a)) then H a else B a
theorem SOk.full (h : SOk T B0 H0 σ B H g) : Ex B (full σ g B H) ∧ Grow B0 H0 (full σ g B H) H ∧ EnvI T σ (full σ g B H) (vA g) := by
  have x1 : Ex B (Sk.full σ g B H) := fun a o e => by
    unfold Sk.full
    split
    · rename_i q
      obtain ⟨i, d, q1, q2⟩ := q
      obtain ⟨p, h1, h2, h3, h4⟩ := h.mu i d q1
      rw [q2] at h1
      cases h1
      rw [e] at h3; cases h3
    · exact e
  have x2 : Ex (Sk.full σ g B H) H := fun a o e => by
    unfold Sk.full at e
    split at e
    · exact e
    · exact h.gr.i a o e
  refine ⟨x1, ⟨h.gr.b.trans x1, x2, h.gr.h, fun a h1 h2 => ?_⟩, by rw [h.len]; simp [vA], fun i d e => ?_⟩
  · unfold Sk.full at h2
    split at h2
    · rename_i q
      obtain ⟨i, d, q1, q2⟩ := q
      obtain ⟨p, h3, h4, h5, h6⟩ := h.mu i d q1
      rw [q2] at h3
      cases h3
      exact h4
    · exact h.gr.n a h1 h2
  · unfold vA at e
    rw [List.getElem?_map] at e
    obtain ⟨s, h1, h2⟩ := map1 e
    cases s with
    | im d' =>
      cases h2
      obtain ⟨v, h3, h4⟩ := h.im i d h1
      exact ⟨v, h3, h4.mono x1⟩
    | no => cases h2
    | mu d' =>
      cases h2
      obtain ⟨p, h3, h4, h5, h6⟩ := h.mu i d h1
      have hp : Sk.full σ g B H p = H p := by
        unfold Sk.full
        rw [if_pos ⟨i, d, h1, h3⟩]
      refine ⟨_, h3, ?_⟩
      rcases h6 with ⟨ds, xs, rfl, h7, h8⟩ | ⟨m, rfl, h7⟩
      · exact .inl (.lst (.inl (.inl (hp.trans h7))) (h8.mono x1))
      · obtain ⟨xs, h8, h9, h10⟩ := h7
        exact .inr ⟨m, p, rfl, rfl, xs, hp.trans h8, h9, h10.mono x1⟩
theorem set_get {α : Type} {l : List α} {i j : Nat} {x y : α} (h : (l.set i x)[j]? = some y) : (j = i ∧ y = x ∧ i < l.length) ∨ (j ≠ i ∧ l[j]? = some y) := by
  by_cases c : i = j
  · subst c
    by_cases hl : i < l.length
    · rw [List.getElem?_set_self hl] at h
      exact .inl ⟨rfl, (Option.some.inj h).symm, hl⟩
    · rw [List.getElem?_eq_none (by rw [List.length_set]; omega)] at h
      cases h
  · rw [List.getElem?_set_ne c] at h
    exact .inr ⟨Ne.symm c, h⟩
theorem SOk.set_im {i : Nat} {v : V} {d : D} (h : SOk T B0 H0 σ B H g) (q : Rp T B v d) : SOk T B0 H0 (σ.set i (some v)) B H (g.set i (.im d)) where
  gr := h.gr
  len := by rw [List.length_set, List.length_set]; exact h.len
  im := fun j e he => by
    rcases set_get he with ⟨rfl, h2, h3⟩ | ⟨h1, h2⟩
    · cases h2
      exact ⟨v, List.getElem?_set_self (by rw [h.len]; exact h3), q⟩
    · rw [List.getElem?_set_ne (Ne.symm h1)]
      exact h.im j e h2
  mu := fun j e he => by
    rcases set_get he with ⟨rfl, h2, h3⟩ | ⟨h1, h2⟩
    · cases h2
    · rw [List.getElem?_set_ne (Ne.symm h1)]
      exact h.mu j e h2
  ap := fun j k e f p h1 h2 h3 h4 => by
    rcases set_get h1 with ⟨_, q1, _⟩ | ⟨n1, q1⟩
    · cases q1
    · rcases set_get h2 with ⟨_, q2, _⟩ | ⟨n2, q2⟩
      · cases q2
      · rw [List.getElem?_set_ne (Ne.symm n1)] at h3
        rw [List.getElem?_set_ne (Ne.symm n2)] at h4
        exact h.ap j k e f p q1 q2 h3 h4
/-- a thing of one's own, kept at i -/
theorem SOk.set_mu {i : Nat} {p : Addr} {d : D} (h : SOk T B0 H0 σ B H g) (h0 : H0 p = none) (hb : B p = none) (q : Own T B (H p) p d) (hn : ∀ (j : Nat) (e : D), j ≠ i → g[j]? = some (.mu e) → σ[j]? ≠ some (some (.ref p))) : SOk T B0 H0 (σ.set i (some (.ref p))) B H (g.set i (.mu d)) where
  gr := h.gr
  len := by rw [List.length_set, List.length_set]; exact h.len
  im := fun j e he => by
    rcases set_get he with ⟨rfl, h2, h3⟩ | ⟨h1, h2⟩
    · cases h2
    · rw [List.getElem?_set_ne (Ne.symm h1)]
      exact h.im j e h2
  mu := fun j e he => by
    rcases set_get he with ⟨rfl, h2, h3⟩ | ⟨h1, h2⟩
    · cases h2
      exact ⟨p, List.getElem?_set_self (by rw [h.len]; exact h3), h0, hb, q⟩
    · rw [List.getElem?_set_ne (Ne.symm h1)]
      exact h.mu j e h2
  ap := fun j k e f p' h1 h2 h3 h4 => by
    rcases set_get h1 with ⟨rfl, q1, l1⟩ | ⟨n1, q1⟩
    · rcases set_get h2 with ⟨rfl, q2, _⟩ | ⟨n2, q2⟩
      · rfl
      · rw [List.getElem?_set_self (by rw [h.len]; exact l1)] at h3
        cases h3
        rw [List.getElem?_set_ne (Ne.symm n2)] at h4
        exact absurd h4 (hn k f n2 q2)
    · rcases set_get h2 with ⟨rfl, q2, l2⟩ | ⟨n2, q2⟩
      · rw [List.getElem?_set_self (by rw [h.len]; exact l2)] at h4
        cases h4
        rw [List.getElem?_set_ne (Ne.symm n1)] at h3
        exact absurd h3 (hn j e n1 q1)
      · rw [List.getElem?_set_ne (Ne.symm n1)] at h3
        rw [List.getElem?_set_ne (Ne.symm n2)] at h4
        exact h.ap j k e f p' q1 q2 h3 h4
/-- one's own thing is changed -/
theorem SOk.write {i : Nat} {p : Addr} {d0 d1 : D} {o : HO} (h : SOk T B0 H0 σ B H g) (h1 : g[i]? = some (.mu d0)) (h2 : σ[i]? = some (some (.ref p))) (q : Own T B (some o) p d1) : SOk T B0 H0 σ B (upd H p o) (g.set i (.mu d1)) := by
  obtain ⟨p', h3, h4, h5, h6⟩ := h.mu i d0 h1
  rw [h2] at h3
  cases h3
  have hi : i < g.length := (List.getElem?_eq_some_iff.mp h1).1
  refine ⟨h.gr.put h4 h5, by rw [List.length_set]; exact h.len, fun j e he => ?_, fun j e he => ?_, fun j k e f p' e1 e2 e3 e4 => ?_⟩
  · rcases set_get he with ⟨_, q2, _⟩ | ⟨_, q2⟩
    · cases q2
    · exact h.im j e q2
  · rcases set_get he with ⟨rfl, q2, _⟩ | ⟨n2, q2⟩
    · cases q2
      exact ⟨p, h2, h4, h5, by rw [upd_same]; exact q⟩
    · obtain ⟨p', a1, a2, a3, a4⟩ := h.mu j e q2
      refine ⟨p', a1, a2, a3, ?_⟩
      rw [upd_ne (fun z => n2 (h.ap j i e d0 p q2 h1 (by rw [← z]; exact a1) h2))]
      exact a4
  · have back : ∀ {j : Nat} {e : D}, (g.set i (.mu d1))[j]? = some (.mu e) → ∃ e', g[j]? = some (.mu e') := fun {j e} he => by
      rcases set_get he with ⟨rfl, _, _⟩ | ⟨_, q2⟩
      · exact ⟨d0, h1⟩
      · exact ⟨e, q2⟩
    obtain ⟨x, hx⟩ := back e1
    obtain ⟨y, hy⟩ := back e2
    exact h.ap j k x y p' hx hy e3 e4
theorem SOk.freeze {i : Nat} {d : D} (h : SOk T B0 H0 σ B H g) (h1 : g[i]? = some (.mu d)) : ∃ B', Ex B B' ∧ SOk T B0 H0 σ B' H (g.set i (.im d)) := by
  obtain ⟨p, h2, h3, h4, h5⟩ := h.mu i d h1
  obtain ⟨o, ho⟩ := h5.ex
  rw [ho] at h5
  have hi : i < g.length := (List.getElem?_eq_some_iff.mp h1).1
  refine ⟨upd B p o, Ex.up h4, ⟨h.gr.b.trans (Ex.up h4), fun a u e => ?_, h.gr.h, fun a e1 e2 => ?_⟩, by rw [List.length_set]; exact h.len, fun j e he => ?_, fun j e he => ?_, fun j k e f p' e1 e2 e3 e4 => ?_⟩
  · by_cases c : a = p
    · subst c; rw [upd_same] at e; cases e; exact ho
    · rw [upd_ne c] at e; exact h.gr.i a u e
  · by_cases c : a = p
    · subst c; exact h3
    · rw [upd_ne c] at e2; exact h.gr.n a e1 e2
  · rcases set_get he with ⟨rfl, q2, _⟩ | ⟨_, q2⟩
    · cases q2
      exact ⟨_, h2, h5.rp h4⟩
    · obtain ⟨v, a1, a2⟩ := h.im j e q2
      exact ⟨v, a1, a2.mono (Ex.up h4)⟩
  · rcases set_get he with ⟨_, q2, _⟩ | ⟨n2, q2⟩
    · cases q2
    · obtain ⟨p', a1, a2, a3, a4⟩ := h.mu j e q2
      refine ⟨p', a1, a2, ?_, a4.mono (Ex.up h4)⟩
      rw [upd_ne (fun z => n2 (h.ap j i e d p q2 h1 (by rw [← z]; exact a1) h2))]
      exact a3
  · rcases set_get e1 with ⟨_, q1, _⟩ | ⟨_, q1⟩
    · cases q1
    · rcases set_get e2 with ⟨_, q2, _⟩ | ⟨_, q2⟩
      · cases q2
      · exact h.ap j k e f p' q1 q2 e3 e4
theorem puts_gam : ∀ (is : List Nat) (xs : List V) (ds : List D) (σ : L2.St) (g g' : Gam), DpAll T.K B xs ds → SOk T B0 H0 σ B H g → putsG is ds g = some g' → SOk T B0 H0 (putsS is xs σ) B H g' ∧ xs.length = is.length
  | [], _, [], σ, g, g', h, en, e => by
    cases h
    cases e
    exact ⟨en, rfl⟩
  | i :: is, _, d :: ds, σ, g, g', h, en, e => by
    cases h with
    | cons h1 h2 =>
      rw [putsG] at e
      obtain ⟨q1, q2⟩ := puts_gam is _ ds _ _ g' h2 (en.set_im (.inl h1)) e
      exact ⟨q1, congrArg Nat.succ q2⟩
  | [], _, _ :: _, _, _, _, _, _, e => by cases e
  | _ :: _, _, [], _, _, _, _, _, e => by cases e
/-- an item goes to its targets -/
theorem tg_gam {tg : Tg} {g' : Gam} {v : V} {d : D} {Q : L2.St → Hp → Prop} (h : SOk T B0 H0 σ B H g) (hd : Rp T B v d) (e : tg.gam d g = some g') (k : ∀ σ', SOk T B0 H0 σ' B H g' → Q σ' H) : rdG T tg v σ H Q := by
  cases tg with
  | n i =>
    cases e
    exact k _ (h.set_im hd)
  | t is =>
    cases d with
    | tuple ds =>
      have e : putsG is ds g = some g' := e
      obtain ⟨a, xs, rfl, h1, h2⟩ := rp_tup hd
      obtain ⟨q1, q2⟩ := puts_gam is xs ds _ _ g' h2 h e
      exact ⟨a, xs, rfl, ex_t h.gr.i h1, q2, k _ q1⟩
    | _ => cases e
end

/-- what is wanted behind -/
def OutK (T : Kit) (fr : Bool) (B0 H0 A : Hp) (Dn : Ends) : Out → Prop
  | .nx g => ∀ σ B H, Ex A B → SOk T B0 H0 σ B H g → Dn.nx σ H
  | .bk g => ∀ σ B H, Ex A B → SOk T B0 H0 σ B H g → Dn.bk σ H
  | .rt d => ∀ v B H, Grow B0 H0 B H → Res T fr H0 B H v d → Dn.rt v H
theorem OutK.mono {T : Kit} {fr : Bool} {B0 H0 A A' : Hp} {Dn : Ends} {o : Out} (e : Ex A A') (h : OutK T fr B0 H0 A Dn o) : OutK T fr B0 H0 A' Dn o := by
  cases o with
  | nx g => exact fun σ B H x q => h σ B H (e.trans x) q
  | bk g => exact fun σ B H x q => h σ B H (e.trans x) q
  | rt d => exact h
def rdS (T : Kit) (fr : Bool) (f : SE) : TS := fun Dn σ H => ∃ B0 H0 B g o, SOk T B0 H0 σ B H g ∧ f g = some o ∧ OutK T fr B0 H0 B Dn o
abbrev PSD (X : Cx) (fr : Bool) (st : Stmt) (f : SE) : Prop := PS X st (rdS (kit X) fr f)
abbrev PSsD (X : Cx) (fr : Bool) (st : List Stmt) (f : SE) : Prop := PSs X st (rdS (kit X) fr f)
theorem ps_imp {X : Cx} {st : Stmt} {t t' : TS} (h : PS X st t) (hi : ∀ Dn σ H, t' Dn σ H → t Dn σ H) : PS X st t' := ⟨fun pins s σ H Dn I hw => h.run pins s σ H Dn I (hi _ _ _ hw)⟩
theorem pss_imp {X : Cx} {st : List Stmt} {t t' : TS} (h : PSs X st t) (hi : ∀ Dn σ H, t' Dn σ H → t Dn σ H) : PSs X st t' := ⟨fun pins s σ H Dn I hw => h.run pins s σ H Dn I (hi _ _ _ hw)⟩
section
variable {X : Cx} {fr : Bool} {st : Stmt} {rest : List Stmt} {sa sb : SE} {a e : Expr} {fe fa : FE} {pos : Pos}
theorem ss_nil : PSsD X fr [] sNil := pss_imp pss_nil fun Dn σ H ⟨B0, H0, B, g, o, h, hf, k⟩ => by
  cases hf
  exact k σ B H (Ex.refl _) h
theorem ss_cons (h1 : PSD X fr st sa) (h2 : PSsD X fr rest sb) : PSsD X fr (st :: rest) (sSeq sa sb) := pss_imp (pss_cons h1 h2) fun Dn σ H ⟨B0, H0, B, g, o, h, hf, k⟩ => by
  obtain ⟨o1, e1, e2⟩ := bind1 hf
  refine ⟨B0, H0, B, g, o1, h, e1, ?_⟩
  cases o1 with
  | nx g' => exact fun σ' B' H' x h' => ⟨B0, H0, B', g', o, h', e2, k.mono x⟩
  | bk g' => cases e2; exact k
  | rt d => cases e2; exact k
theorem ss_one (h1 : PSD X fr st sa) : PSsD X fr [st] sa := pss_one h1
/-- what this def alone holds is given free -/
theorem ss_fz (i : Nat) (h2 : PSsD X fr rest sb) : PSsD X fr rest (sSeq (sFz i) sb) := pss_imp h2 fun Dn σ H ⟨B0, H0, B, g, o, h, hf, k⟩ => by
  obtain ⟨o1, e1, e2⟩ := bind1 hf
  unfold sFz at e1
  split at e1
  · rename_i d hd
    cases e1
    obtain ⟨B', x, h'⟩ := h.freeze hd
    exact ⟨B0, H0, B', _, o, h', e2, k.mono x⟩
  · cases e1
    exact ⟨B0, H0, B, g, o, h, e2, k⟩

/-! ### assignments -/
theorem asg_core {T : Kit} {tg : Tg} {Dn : Ends} {σ : L2.St} {H : Hp} (h : rdS T fr (sAsg tg fe) Dn σ H) : tAsg (rdE T false fe) (rdG T tg) Dn σ H := by
  obtain ⟨B0, H0, B, g, o, h, hf, k⟩ := h
  obtain ⟨d, e1, e2⟩ := bind1 hf
  obtain ⟨g', e3, rfl⟩ := map1 e2
  exact ⟨B, vI g, d, h.gr.i, h.envI, e1, fun v B' H' gr q => tg_gam (h.grow gr) q e3 fun σ' h' => k σ' B' H' gr.b h'⟩
theorem s_asg {tgx : Expr} {tg : Tg} (he : PED X false e fe) (hg : PGD X tgx tg) (hs : swapsWithSole [tgx] e pos.line X.env = pure false := by rfl) (hw : swappedStores [tgx] e X.env = pure none := by rfl)
    (h1 : (assignEach [tgx] X.env).map (·.2) = [assign tgx X.env] := by rfl) : PSD X fr (.Assign [tgx] e pos) (sAsg tg fe) := ps_imp (ps_asg he hg hs hw h1) fun Dn σ H h => asg_core h
theorem s_set {i : Nat} {x : Str} {pos' : Pos} (hN : X.N.Nodup) (hi : X.N[i]? = some x) (hx : Loc X.env.scope x) (he : PED X false e fe) (hs : swapsWith e (some (.Name x pos')) pos.line X.env = pure false := by rfl)
    (hf : X.fn x = true ∨ X.env.scope.names.lookup x = some .local := by first | exact .inl rfl | exact .inr rfl | assumption) : PSD X fr (.Assign [.Name x pos'] e pos) (sAsg (.n i) fe) := ps_imp (ps_set hN hi hx he hs hf) fun Dn σ H h => asg_core h
/-- x = e, flat, of all that is held -/
theorem s_setF {i : Nat} {x : Str} {pos' : Pos} (hN : X.N.Nodup) (hi : X.N[i]? = some x) (hx : Loc X.env.scope x) (he : PED X false e fe) (hs : swapsWith e (some (.Name x pos')) pos.line X.env = pure false := by rfl)
    (hf : X.fn x = true ∨ X.env.scope.names.lookup x = some .local := by first | exact .inl rfl | exact .inr rfl | assumption) : PSD X fr (.Assign [.Name x pos'] e pos) (sAsgF i fe) := ps_imp (ps_set hN hi hx he hs hf) fun Dn σ H ⟨B0, H0, B, g, o, h, hf, k⟩ => by
  obtain ⟨d, e1, e2⟩ := bind1 hf
  split at e2
  · rename_i hfl
    cases e2
    obtain ⟨x1, x2, x3⟩ := h.full
    exact ⟨_, vA g, d, x2.i, x3, e1, fun v B' H' gr q => k _ _ _ (Ex.refl _) ((h.heap gr.h).set_im (Rp.flat q hfl))⟩
  · cases e2
theorem new_core {T : Kit} {i : Nat} {Dn : Ends} {σ : L2.St} {H : Hp} (h : rdS T fr (sNew i fe) Dn σ H) : tAsg (rdE T true fe) (gName i) Dn σ H := by
  obtain ⟨B0, H0, B, g, o, h, hf, k⟩ := h
  obtain ⟨d, e1, e2⟩ := bind1 hf
  cases e2
  refine ⟨B, vI g, d, h.gr.i, h.envI, e1, fun v B' H' gr q => ?_⟩
  obtain ⟨p, rfl, q1, q2, q3⟩ := q
  have h' := h.grow gr
  refine k _ B' H' gr.b (h'.set_mu (h.gr.h.back q1) q2 q3 fun j e hj he hz => ?_)
  obtain ⟨p', a1, a2, a3, a4⟩ := h.mu j e he
  rw [hz] at a1
  cases a1
  obtain ⟨u, hu⟩ := a4.ex
  rw [q1] at hu
  cases hu
/-- x = e, new: this def alone holds it -/
theorem s_new {i : Nat} {x : Str} {pos' : Pos} (hN : X.N.Nodup) (hi : X.N[i]? = some x) (hx : Loc X.env.scope x) (he : PED X true e fe) (hs : swapsWith e (some (.Name x pos')) pos.line X.env = pure false := by rfl)
    (hf : X.fn x = true ∨ X.env.scope.names.lookup x = some .local := by first | exact .inl rfl | exact .inr rfl | assumption) : PSD X fr (.Assign [.Name x pos'] e pos) (sNew i fe) := ps_imp (ps_set hN hi hx he hs hf) fun Dn σ H h => new_core h
theorem seal_rd {T : Kit} {σ : L2.St} {H : Hp} {Q : VK} (h : rdE T false fe σ H Q) : rdE T true fe σ H Q := by
  obtain ⟨B, r, d, i, en, hf, k⟩ := h
  exact ⟨B, r, d, i, en, hf, fun v B' H' g q => by
    obtain ⟨B'', g', q'⟩ := g.seal (T := T) q
    exact k v B'' H' g' q'⟩
section
variable {elt tg iter : Expr} {ifs : List Expr} {scope : Scope} {own : List (Str × Nat)} {spos : Pos} {src : FI} {tgd : Tg} {tt : FT} {el : FE}
theorem setLc_core {i : Nat} {y : Str} {py : Pos} (hc : X.calm = true) (hN : X.N.Nodup) (hy : X.N[i]? = some y) (hyl : X.env.scope.names.lookup y = some .local) (hsw : swapsWith (.ListComp elt [⟨tg, iter, ifs, 0⟩] scope pos) (some (.Name y py)) spos.line X.env = pure true)
    (hi : PID X tg iter src) (ok : BlkOk X.N X.env.scope scope own) (hix : own.map (·.2) = tgd.ix)
    (hg : ∀ (s : Shared) (H : Hp) (C : Addr) (cl : List (Str × Addr)) (fp : List Addr), PGD (X.blk s H scope (compEnvC scope cl C X.env) fp) tg tgd)
    (ht : ∀ (s : Shared) (H : Hp) (C : Addr) (cl : List (Str × Addr)) (fp : List Addr), PTsD (X.blk s H scope (compEnvC scope cl C X.env) fp) ifs tt)
    (he : ∀ (s : Shared) (H : Hp) (C : Addr) (cl : List (Str × Addr)) (fp : List Addr), PED (X.blk s H scope (compEnvC scope cl C X.env) fp) false elt el)
    (hs : ∀ x, foldedSetIterable iter X.env x = pure x := by intro _; rfl) : PS X (.Assign [.Name y py] (.ListComp elt [⟨tg, iter, ifs, 0⟩] scope pos) spos) (tAsg (rdE (kit X) true (eLc src tgd tt el)) (gName i)) :=
  ps_imp (ps_setLc hc hN hy hyl hsw hi ok hg ht he hs) fun Dn σ H ⟨B, r, d, ie, en, hf, k⟩ => by
    rw [hix]
    exact lc_env (T := kit X) ie en hf k
/-- y = [..] -/
theorem s_setLc {i : Nat} {y : Str} {py : Pos} (hc : X.calm = true) (hN : X.N.Nodup) (hy : X.N[i]? = some y) (hyl : X.env.scope.names.lookup y = some .local) (hsw : swapsWith (.ListComp elt [⟨tg, iter, ifs, 0⟩] scope pos) (some (.Name y py)) spos.line X.env = pure true)
    (hi : PID X tg iter src) (ok : BlkOk X.N X.env.scope scope own) (hix : own.map (·.2) = tgd.ix)
    (hg : ∀ (s : Shared) (H : Hp) (C : Addr) (cl : List (Str × Addr)) (fp : List Addr), PGD (X.blk s H scope (compEnvC scope cl C X.env) fp) tg tgd)
    (ht : ∀ (s : Shared) (H : Hp) (C : Addr) (cl : List (Str × Addr)) (fp : List Addr), PTsD (X.blk s H scope (compEnvC scope cl C X.env) fp) ifs tt)
    (he : ∀ (s : Shared) (H : Hp) (C : Addr) (cl : List (Str × Addr)) (fp : List Addr), PED (X.blk s H scope (compEnvC scope cl C X.env) fp) false elt el)
    (hs : ∀ x, foldedSetIterable iter X.env x = pure x := by intro _; rfl) : PSD X fr (.Assign [.Name y py] (.ListComp elt [⟨tg, iter, ifs, 0⟩] scope pos) spos) (sAsg (.n i) (eLc src tgd tt el)) :=
  ps_imp (setLc_core hc hN hy hyl hsw hi ok hix hg ht he hs) fun Dn σ H h => seal_rd (asg_core h)
theorem s_newLc {i : Nat} {y : Str} {py : Pos} (hc : X.calm = true) (hN : X.N.Nodup) (hy : X.N[i]? = some y) (hyl : X.env.scope.names.lookup y = some .local) (hsw : swapsWith (.ListComp elt [⟨tg, iter, ifs, 0⟩] scope pos) (some (.Name y py)) spos.line X.env = pure true)
    (hi : PID X tg iter src) (ok : BlkOk X.N X.env.scope scope own) (hix : own.map (·.2) = tgd.ix)
    (hg : ∀ (s : Shared) (H : Hp) (C : Addr) (cl : List (Str × Addr)) (fp : List Addr), PGD (X.blk s H scope (compEnvC scope cl C X.env) fp) tg tgd)
    (ht : ∀ (s : Shared) (H : Hp) (C : Addr) (cl : List (Str × Addr)) (fp : List Addr), PTsD (X.blk s H scope (compEnvC scope cl C X.env) fp) ifs tt)
    (he : ∀ (s : Shared) (H : Hp) (C : Addr) (cl : List (Str × Addr)) (fp : List Addr), PED (X.blk s H scope (compEnvC scope cl C X.env) fp) false elt el)
    (hs : ∀ x, foldedSetIterable iter X.env x = pure x := by intro _; rfl) : PSD X fr (.Assign [.Name y py] (.ListComp elt [⟨tg, iter, ifs, 0⟩] scope pos) spos) (sNew i (eLc src tgd tt el)) :=
  ps_imp (setLc_core hc hN hy hyl hsw hi ok hix hg ht he hs) fun Dn σ H h => new_core h
end
theorem s_par {i j : Nat} {x y : Str} {b : Expr} {fb : FE} {px py pt : Pos} {kt k2 pt2} (hc : X.calm = true) (hN : X.N.Nodup) (hi : X.N[i]? = some x) (hj : X.N[j]? = some y) (hij : i ≠ j)
    (hx : X.env.scope.names.lookup x = some .local) (hy : X.env.scope.names.lookup y = some .local) (ha : PED X false a fa) (hb : PED X false b fb)
    (hw : swappedStores [.Tuple [.Name x px, .Name y py] kt pt] (.Tuple [a, b] k2 pt2) X.env = pure (some [x, y]))
    (hs : swapsWithSole [.Tuple [.Name x px, .Name y py] kt pt] (.Tuple [a, b] k2 pt2) pos.line X.env = pure false := by rfl)
    (h1 : starEach [a, b] X.env = (false, eval a X.env) :: starEach [b] X.env := by rfl) (h2 : starEach [b] X.env = (false, eval b X.env) :: starEach [] X.env := by rfl) :
    PSD X fr (.Assign [.Tuple [.Name x px, .Name y py] kt pt] (.Tuple [a, b] k2 pt2) pos) (sPar i j fa fb) := ps_imp (ps_par hc hN hi hj hij hx hy (a_cons ha (a_cons hb a_nil h2) h1) hw hs) fun Dn σ H ⟨B0, H0, B, g, o, h, hf, k⟩ => by
  obtain ⟨d, e, e1, e2, e3⟩ := bind2 hf
  cases e3
  refine ⟨B, vI g, [d, e], h.gr.i, h.envI, (by unfold aCons; rw [e1]; show Option.bind (some d) _ = _; show Option.bind (Option.bind (fb (vI g)) _) _ = _; rw [e2]; rfl), fun vs B' H' gr q => ?_⟩
  obtain ⟨v, u, rfl, q1, q2⟩ := rps2 q
  exact ⟨v, u, rfl, k _ B' H' gr.b (((h.grow gr).set_im q1).set_im q2)⟩

/-! ### return, if, loops -/
theorem s_ret (he : PED X false e fe) : PSD X false (.Return (some e) pos) (sRet fe) := ps_imp (ps_ret he) fun Dn σ H ⟨B0, H0, B, g, o, h, hf, k⟩ => by
  obtain ⟨d, e1, rfl⟩ := map1 hf
  obtain ⟨x1, x2, x3⟩ := h.full
  exact ⟨_, vA g, d, x2.i, x3, e1, fun v B' H' gr q => k v B' H' (x2.trans gr) q⟩
theorem s_retN (he : PED X fr e fe) : PSD X fr (.Return (some e) pos) (sRetN fe) := ps_imp (ps_ret he) fun Dn σ H ⟨B0, H0, B, g, o, h, hf, k⟩ => by
  obtain ⟨d, e1, rfl⟩ := map1 hf
  exact ⟨B, vI g, d, h.gr.i, h.envI, e1, fun v B' H' gr q => k v B' H' (h.gr.trans gr) (res_up h.gr q)⟩
theorem s_if {c : Expr} {ls rs : List Stmt} {tc : FT} (hc : PTD X c tc) (ha : PSsD X fr ls sa) (hb : PSsD X fr rs sb) : PSD X fr (.If c ls rs pos) (sIf tc sa sb) := ps_imp (ps_if hc ha hb) fun Dn σ H ⟨B0, H0, B, g, o, h, hf, k⟩ => by
  obtain ⟨b, e1, e2⟩ := bind1 hf
  obtain ⟨x1, x2, x3⟩ := h.full
  refine ⟨_, vA g, b, x2.i, x3, e1, fun B' H' gr => ?_⟩
  cases b with
  | true =>
    rw [if_pos rfl] at e2 ⊢
    exact ⟨B0, H0, B, g, o, h.heap gr.h, e2, k⟩
  | false =>
    rw [if_neg Bool.false_ne_true] at e2 ⊢
    exact ⟨B0, H0, B, g, o, h.heap gr.h, e2, k⟩
theorem s_brk : PSD X fr (.Break pos) sBrk := ps_imp ps_break fun Dn σ H ⟨B0, H0, B, g, o, h, hf, k⟩ => by
  cases hf
  exact k σ B H (Ex.refl _) h
theorem s_for {tgx iter : Expr} {tg : Tg} {src : FI} {body : List Stmt} (hp : PassesOwn (model X.prog X.w) X.A X.env X.xe) (hc : X.calm = true) (hi : PID X tgx iter src) (hg : PGD X tgx tg) (hb : PSsD X fr body sa)
    (hs : ∀ x, foldedSetIterable iter X.env x = pure x := by intro _; rfl) : PSD X fr (.For tgx iter body [] pos) (sFor src tg sa) := ps_imp (ps_for hp hc hi hg hb hs) fun Dn σ H ⟨B0, H0, B, g, o, h, hf, k⟩ => by
  obtain ⟨xs, e1, e2⟩ := bind1 hf
  refine ⟨B, vI g, xs, h.gr.i, h.envI, e1, fun J B1 H1 g1 W1 => ?_⟩
  refine ⟨fun i m σ H => m = xs.length - i ∧ i ≤ xs.length ∧ ∃ B2 g2, Ex B1 B2 ∧ SOk (kit X) B0 H0 σ B2 H g2 ∧ forGo tg sa (xs.drop i) g2 = some o, ⟨xs.length, rfl, Nat.zero_le _, B1, g, Ex.refl _, h.grow g1, e2⟩, ?_⟩
  rintro i m σ2 H2 ⟨rfl, hi2, B2, g2, x12, h2, e3⟩
  obtain ⟨w1, w2⟩ := W1 H2 (x12.trans h2.gr.i)
  by_cases hlt : i < xs.length
  · have hx : xs[i]? = some xs[i] := List.getElem?_eq_getElem hlt
    rw [List.drop_eq_getElem_cons hlt, forGo] at e3
    obtain ⟨g3, e4, e5⟩ := bind1 e3
    obtain ⟨o1, e6, e7⟩ := bind1 e5
    obtain ⟨w3, w4⟩ := w2 i _ hx
    refine .inr ⟨w3, fun σ' H' => ∃ B3 g4, Ex B1 B3 ∧ SOk (kit X) B0 H0 σ' B3 H' g4 ∧ forGo tg sa (xs.drop (i + 1)) g4 = some o, fun σ' H' ⟨B3, g4, q1, q2, q3⟩ => ⟨xs.length - (i + 1), by omega, rfl, hlt, B3, g4, q1, q2, q3⟩, fun v H' hy => ?_⟩
    obtain ⟨rfl, hv⟩ := w4 v H' hy
    refine tg_gam h2 (.inl (hv.mono x12)) e4 fun σ' h' => ⟨B0, H0, B2, g3, o1, h', e6, ?_⟩
    cases o1 with
    | nx g4 => exact fun σ5 B5 H5 x5 h5 => ⟨B5, g4, x12.trans x5, h5, e7⟩
    | bk g4 =>
      cases e7
      exact fun σ5 B5 H5 x5 h5 => k σ5 B5 H5 ((g1.b.trans x12).trans x5) h5
    | rt d =>
      cases e7
      exact k
  · have e : i = xs.length := by omega
    subst e
    rw [List.drop_length, forGo] at e3
    cases e3
    exact .inl ⟨w1, k σ2 B2 H2 (g1.b.trans x12) h2⟩
theorem s_while {c : Expr} {body : List Stmt} {tc : FT} {n : Nat} (hp : PassesOwn (model X.prog X.w) X.A X.env X.xe) (hc : PTD X c tc) (hb : PSsD X fr body sa) : PSD X fr (.While c body [] pos) (whGo tc sa n) := ps_imp (ps_while hp hc hb) fun Dn σ H ⟨B0, H0, B, g, o, h, hf, k⟩ => by
  refine ⟨fun m σ H => ∃ B2 g2, Ex B B2 ∧ SOk (kit X) B0 H0 σ B2 H g2 ∧ whGo tc sa m g2 = some o, ⟨n, B, g, Ex.refl _, h, hf⟩, ?_⟩
  rintro m σ2 H2 ⟨B2, g2, x2, h2, e2⟩
  cases m with
  | zero => cases e2
  | succ m =>
    rw [whGo] at e2
    obtain ⟨b, e3, e4⟩ := bind1 e2
    obtain ⟨x5, x6, x7⟩ := h2.full
    refine ⟨_, vA g2, b, x6.i, x7, e3, fun B' H' gr => ?_⟩
    have h3 := h2.heap gr.h
    cases b with
    | false =>
      rw [if_neg Bool.false_ne_true] at e4
      cases e4
      show Dn.nx σ2 H'
      exact k σ2 B2 H' x2 h3
    | true =>
      rw [if_pos rfl] at e4
      obtain ⟨o1, e5, e6⟩ := bind1 e4
      show ∃ N : L2.St → Hp → Prop, _
      refine ⟨fun σ' H' => ∃ B3 g3, Ex B B3 ∧ SOk (kit X) B0 H0 σ' B3 H' g3 ∧ whGo tc sa m g3 = some o, fun σ' H' q => ⟨m, Nat.lt_succ_self m, q⟩, B0, H0, B2, g2, o1, h3, e5, ?_⟩
      cases o1 with
      | nx g4 => exact fun σ5 B5 H5 x5 h5 => ⟨B5, g4, x2.trans x5, h5, e6⟩
      | bk g4 =>
        cases e6
        exact fun σ5 B5 H5 x5 h5 => k σ5 B5 H5 (x2.trans x5) h5
      | rt d =>
        cases e6
        exact k
theorem s_aug {i : Nat} {x : Str} {pos' : Pos} (hN : X.N.Nodup) (hi : X.N[i]? = some x) (hx : Loc X.env.scope x) (he : PED X false e fe)
    (hf : X.fn x = true ∨ X.env.scope.names.lookup x = some .local := by first | exact .inl rfl | exact .inr rfl | assumption) : PSD X fr (.AugAssign (.Name x pos') .Add e pos) (sAug i oAdd fe) := ps_imp (ps_aug hN hi hx he ip_add hf) fun Dn σ H ⟨B0, H0, B, g, o, h, hf, k⟩ => by
  obtain ⟨a, e1, e2⟩ := bind1 hf
  obtain ⟨b, e3, e4⟩ := bind1 e2
  obtain ⟨c, e5, e6⟩ := bind1 e4
  cases e6
  unfold oAdd at e5
  split at e5
  · rename_i za zb
    cases e5
    have e1' : (vI g)[i]? = some (some (.int za)) := by
      unfold eV at e1
      cases q : (vI g)[i]? with
      | none => rw [q] at e1; cases e1
      | some o => rw [q] at e1; exact congrArg some e1
    obtain ⟨v, q1, q2⟩ := h.envI.at_ _ _ e1'
    rw [rp_int q2] at q1
    exact ⟨_, q1, B, vI g, _, h.gr.i, h.envI, e3, fun u B' H' gr q => ⟨_, _, rfl, rp_int q, k _ B' H' gr.b ((h.grow gr).set_im (.inl (.int _)))⟩⟩
  · cases e5
end
end Sk
/-! SkLay8: changes of lists of one's own; defs -/
namespace Sk
open PySem PySem.Spec PyProof.Rows L2 Evl
section
variable {X : Cx} {fr : Bool} {a e : Expr} {fe fi : FE} {pos : Pos} {x y : Str} {i j : Nat}
/-- x.append(e) -/
theorem s_app {p1 p2 p3 : Pos} (hN : X.N[i]? = some x) (hv : Vis X.env.scope x) (he : PED X false e fe) (hd : (x == ("__debug__" : Str)) = false := by decide) (hcd : (x == ("__classdict__" : Str)) = false := by decide)
    (hbase : attributeBase (.Name x p1) "append" X.env (eval (.Name x p1) X.env) = eval (.Name x p1) X.env := by rfl)
    (hfew : ((backTo p3 (starEach [e] X.env)).all (fun x => !x.1) && (backToKw p3 (keywordEach [] X.env)).all (fun x => x.1.isSome)
      && decide ([e].length + ([] : List Keyword).length + (if ([] : List Keyword).isEmpty then 0 else 1) < 30)) = true := by rfl)
    (hline : (p2.endLine == p3.line) = true := by rfl) (hs : starEach [e] X.env = (false, eval e X.env) :: starEach [] X.env := by rfl) (hplain : (backTo p3 (starEach [] X.env)).any (·.1) = false := by rfl)
    (hsw : swapsWith (.Call (.Attribute (.Name x p1) "append" p2) [e] [] p3) none pos.line X.env = pure false := by rfl) :
    PSD X fr (.Expr (.Call (.Attribute (.Name x p1) "append" p2) [e] [] p3) pos) (sApp i fe) :=
  ps_imp (ps_expr (pe_bm PySem.F.plainAttrs_list PySem.F.slot_list_append PySem.F.type_list_append mt_append (pe_var hN hv hd hcd) (a_cons he a_nil hs) hbase hfew hline hs hplain) hsw) fun Dn σ H ⟨B0, H0, B, g, o, h, hf, k⟩ => by
    unfold sApp at hf
    split at hf
    · rename_i ds hg
      obtain ⟨d, e1, e2⟩ := bind1 hf
      split at e2
      · rename_i hc
        cases e2
        obtain ⟨p, q1, q2, q3, q4⟩ := h.mu i _ hg
        rcases q4 with ⟨ds', xs, z1, z2, z3⟩ | ⟨m, z1, _⟩
        · cases z1
          refine ⟨_, q1, .inl ⟨rfl, _, SqL.of z2⟩, B, vI g, [d], h.gr.i, h.envI, (by unfold aCons; rw [e1]; rfl), fun vs B' H' gr q => ?_⟩
          obtain ⟨v, rfl, qv⟩ := rps1 q
          have h' := h.grow gr
          obtain ⟨n1, n2⟩ := gr.keeps q3 z2
          have hl := z3.len
          have hL := lim_eq
          refine ⟨p, xs, v, rfl, rfl, n2, by omega, k _ B' _ gr.b (h'.write hg q1 (.inl ⟨_, _, rfl, rfl, (z3.mono gr.b).app (.cons (Rp.dp qv hc.2) .nil)⟩))⟩
        · cases z1
      · cases e2
    · cases hf
/-- y = x.pop() -/
theorem s_pop {p1 p2 p3 py : Pos} (hN : X.N[i]? = some x) (hv : Vis X.env.scope x) (hnd : X.N.Nodup) (hj : X.N[j]? = some y) (hy : Loc X.env.scope y) (hd : (x == ("__debug__" : Str)) = false := by decide) (hcd : (x == ("__classdict__" : Str)) = false := by decide)
    (hbase : attributeBase (.Name x p1) "pop" X.env (eval (.Name x p1) X.env) = eval (.Name x p1) X.env := by rfl) (hline : (p2.endLine == p3.line) = true := by rfl)
    (hsw : swapsWith (.Call (.Attribute (.Name x p1) "pop" p2) [] [] p3) (some (.Name y py)) pos.line X.env = pure false := by rfl)
    (hf : X.fn y = true ∨ X.env.scope.names.lookup y = some .local := by first | exact .inl rfl | exact .inr rfl | assumption) :
    PSD X fr (.Assign [.Name y py] (.Call (.Attribute (.Name x p1) "pop" p2) [] [] p3) pos) (sPop j i) :=
  ps_imp (ps_set hnd hj hy (pe_bm0 PySem.F.plainAttrs_list PySem.F.slot_list_pop PySem.F.type_list_pop mt_pop (pe_var hN hv hd hcd) hbase hline) hsw hf) fun Dn σ H ⟨B0, H0, B, g, o, h, hf, k⟩ => by
    unfold sPop at hf
    split at hf
    · rename_i ds hg
      obtain ⟨d, e1, e2⟩ := bind1 hf
      cases e2
      obtain ⟨p, q1, q2, q3, q4⟩ := h.mu i _ hg
      rcases q4 with ⟨ds', xs, z1, z2, z3⟩ | ⟨m, z1, _⟩
      · cases z1
        obtain ⟨v, e3, e4⟩ := z3.get e1
        refine ⟨_, q1, .inl ⟨rfl, _, SqL.of z2⟩, p, xs, v, rfl, rfl, z2, by rw [z3.len]; exact e3, k _ B _ (Ex.refl _) ?_⟩
        have hdl : DpAll (kit X).K B xs.dropLast ds.dropLast := by
          rw [List.dropLast_eq_take, List.dropLast_eq_take, z3.len]
          exact z3.take _
        exact (h.write hg q1 (.inl ⟨_, _, rfl, rfl, hdl⟩)).set_im (.inl e4)
      · cases z1
    · cases hf
/-- x[e] = v, x a list of one's own -/
theorem s_stL {p1 p2 : Pos} {b v : Expr} (hN : X.N[i]? = some x) (hv : Vis X.env.scope x) (hb : PED X false b fi) (he : PED X false v fe) (hd : (x == ("__debug__" : Str)) = false := by decide) (hcd : (x == ("__classdict__" : Str)) = false := by decide)
    (ha : ∀ w, assign (.Subscript (.Name x p1) b p2) X.env w = (do
      let ov ← holding [w] (eval (.Name x p1) X.env)
      let iv ← holding [w, ov] (eval b X.env)
      standAt p2
      holding [w, ov, iv] (setItem ov iv w)
      release [w, ov, iv] []) := by intro _; rfl)
    (hs : swapsWithSole [.Subscript (.Name x p1) b p2] v pos.line X.env = pure false := by rfl) (hw : swappedStores [.Subscript (.Name x p1) b p2] v X.env = pure none := by rfl)
    (h1 : (assignEach [.Subscript (.Name x p1) b p2] X.env).map (·.2) = [assign (.Subscript (.Name x p1) b p2) X.env] := by rfl) :
    PSD X fr (.Assign [.Subscript (.Name x p1) b p2] v pos) (sStL i fi fe) :=
  ps_imp (ps_asg he (pg_sub (pe_var hN hv hd hcd) hb set_list ha) hs hw h1) fun Dn σ H ⟨B0, H0, B, g, o, h, hf, k⟩ => by
    unfold sStL at hf
    split at hf
    · rename_i ds hg
      obtain ⟨d, e1, e2⟩ := bind1 hf
      obtain ⟨c, e3, e4⟩ := bind1 e2
      split at e4
      · rename_i n
        obtain ⟨j, e5, e6⟩ := bind1 e4
        split at e6
        · rename_i hfl
          cases e6
          obtain ⟨x1, x2, x3⟩ := h.full
          obtain ⟨p, q1, q2, q3, q4⟩ := h.mu i _ hg
          rcases q4 with ⟨ds', xs, z1, z2, z3⟩ | ⟨m, z1, _⟩
          · cases z1
            refine ⟨_, vA g, d, x2.i, x3, e1, fun u B' H' gr q => ⟨_, q1, B', vA g, _, gr.i, x3.mono gr.b, e3, fun w B2 H2 g2 q5 => ?_⟩⟩
            have hh := gr.h.trans g2.h
            have h' := h.heap hh
            refine ⟨p, xs, n, j, rfl, rp_int q5, hh p _ z2, by rw [z3.len, ← ix_same]; exact e5, k _ B _ (Ex.refl _) (h'.write hg q1 (.inl ⟨_, _, rfl, rfl, DpAll.set ?_ j z3⟩))⟩
            exact Dp.flat (Rp.dp q (by cases d <;> first | rfl | cases hfl)) hfl
          · cases z1
        · cases e6
      · cases e4
    · cases hf
end

/-! ### a def keeps its promise -/
theorem start_ok {T : Kit} {B H : Hp} {N : List Str} {vs : List V} {ds : List D} (ie : Ex B H) (h : Rps T B vs ds) (hn : ds.length ≤ N.length) :
    SOk T B H (L2.start N vs) B H (ds.map Sl.im ++ List.replicate (N.length - ds.length) Sl.no) := by
  have hl : vs.length = ds.length := h.length
  refine ⟨Grow.refl ie, ?_, fun i d e => ?_, fun i d e => ?_, fun i j d e p h1 => ?_⟩
  · unfold L2.start
    simp only [List.length_append, List.length_map, List.length_replicate]
    omega
  · rcases Nat.lt_or_ge i ds.length with c | c
    · rw [List.getElem?_append_left (by rw [List.length_map]; exact c), List.getElem?_map] at e
      obtain ⟨d', h1, h2⟩ := map1 e
      cases h2
      have : ∀ {vs : List V} {ds : List D} {i : Nat} {d : D}, Rps T B vs ds → ds[i]? = some d → ∃ v, vs[i]? = some v ∧ Rp T B v d := by
        intro vs ds i d q
        induction q generalizing i with
        | nil => intro z; simp at z
        | cons q1 q2 ih =>
          intro z
          cases i with
          | zero => simp at z; subst z; exact ⟨_, rfl, q1⟩
          | succ i => obtain ⟨v, z1, z2⟩ := ih (i := i) (by simpa using z); exact ⟨v, by simpa using z1, z2⟩
      obtain ⟨v, h3, h4⟩ := this h h1
      refine ⟨v, ?_, h4⟩
      unfold L2.start
      rw [List.getElem?_append_left (by rw [List.length_map, hl]; exact c), List.getElem?_map, h3]
      rfl
    · rw [List.getElem?_append_right (by rw [List.length_map]; exact c), List.getElem?_replicate] at e
      split at e
      · cases e
      · cases e
  · rcases Nat.lt_or_ge i ds.length with c | c
    · rw [List.getElem?_append_left (by rw [List.length_map]; exact c), List.getElem?_map] at e
      obtain ⟨d', h1, h2⟩ := map1 e
      cases h2
    · rw [List.getElem?_append_right (by rw [List.length_map]; exact c), List.getElem?_replicate] at e
      split at e
      · cases e
      · cases e
  · rcases Nat.lt_or_ge i ds.length with c | c
    · rw [List.getElem?_append_left (by rw [List.length_map]; exact c), List.getElem?_map] at h1
      obtain ⟨d', h1, h2⟩ := map1 h1
      cases h2
    · rw [List.getElem?_append_right (by rw [List.length_map]; exact c), List.getElem?_replicate] at h1
      split at h1
      · cases h1
      · cases h1
section
variable {P : Program} {w : World} {K : PySem.W.Frag} {mg : Str → Option Value} {base : Heap} {x qual : Str} {st : Stmt} {f : Addr} {fd : FuncData} {N ps : List Str} {k : Nat} {fr : Bool} {body : SE}
theorem def_ok (F : Fun K x qual st f fd) (S : FnScope N ps (defScope st)) (hn : ps.length ≤ N.length)
    (hb : ∀ (cdv : Value) (A : Around) (outer : List Env) (s : Shared) (H : Hp) (E : XK), Room k (A.deeper (envOfC qual (defScope st) s.heap.objs.size f cdv)) →
      PSsD (cxOf CX0 P w K mg base N qual (defScope st) f cdv A outer s H E).nox fr (defBody st) body) : FnOk P w K mg base CX0 (k + 1) f fd ps (spD ⟨K, P, w⟩ fr (runDef ps.length N.length body)) := by
  refine F.ok S (fun vs H Q E h => ?_) (fun cdv A outer s H vs Q E hr h => ?_)
  · obtain ⟨B, ds, d, ie, q, hf, _⟩ := h
    unfold runDef at hf
    split at hf
    · rename_i c
      rw [← c]
      exact q.length
    · cases hf
  · obtain ⟨B, ds, d, ie, q, hf, kk⟩ := h
    refine ⟨_, hb cdv A outer s H E hr, ?_⟩
    unfold runDef at hf
    split at hf
    · rename_i c
      split at hf
      · rename_i d' hd
        cases hf
        exact ⟨B, H, B, _, _, start_ok ie q (by omega), hd, fun v B' H' gr z => kk v B' H' gr z⟩
      · cases hf
    · cases hf
end
end Sk
/-! SkLay9: dicts whose keys are tuples of ints and of such tuples -/
namespace Sk
open PySem PySem.Spec PyProof.Rows L2 Evl

/-! ### keys -/
section
variable {X : Cx} {pins : List (Addr × Obj)} {σ : L2.St} {H : Hp} {s : Shared}
theorem nestAll (I : Inv X pins σ H s) {n : Nat} (ih : ∀ (d : D) (v : V) (u : Value), keyish n d = true → Dp X.K H v d → RelV v u → ∃ k : NestedKey, k.data = d ∧ NestedIs s.heap k u ∧ k.depth ≤ n) :
    ∀ (ds : List D) (vs : List V) (us : List Value), ds.all (keyish n) = true → DpAll X.K H vs ds → Vals vs us → ∃ ks : List NestedKey, NestedKey.datas ks = ds ∧ NestedAll s.heap ks us ∧ NestedKey.depthAll ks ≤ n
  | [], _, _, _, h, r => by
    cases h
    cases r
    exact ⟨[], rfl, .nil, Nat.zero_le _⟩
  | d :: ds, _, _, hk, h, r => by
    rw [List.all_cons, Bool.and_eq_true] at hk
    cases h with
    | cons h1 h2 =>
      cases r with
      | cons r1 r2 =>
        obtain ⟨k, a1, a2, a3⟩ := ih d _ _ hk.1 h1 r1
        obtain ⟨ks, b1, b2, b3⟩ := nestAll I ih ds _ _ hk.2 h2 r2
        exact ⟨k :: ks, by rw [NestedKey.datas, a1, b1], .cons a2 b2, by rw [NestedKey.depthAll]; exact Nat.max_le.mpr ⟨a3, b3⟩⟩
theorem nest (I : Inv X pins σ H s) : ∀ (n : Nat) (d : D) (v : V) (u : Value), keyish n d = true → Dp X.K H v d → RelV v u → ∃ k : NestedKey, k.data = d ∧ NestedIs s.heap k u ∧ k.depth ≤ n
  | n, .int i, _, _, _, h, r => by
    cases h
    obtain ⟨t, rfl⟩ := r
    exact ⟨.num i, by rw [NestedKey.data], .int i t, by simp [NestedKey.depth]⟩
  | 0, .tuple a, _, _, hk, _, _ => by simp [keyish] at hk
  | n + 1, .tuple a, _, _, hk, h, r => by
    cases h with
    | tup h1 h2 =>
      cases r
      obtain ⟨its, rv, ⟨o, ho, hc, m, hd⟩, _⟩ := I.tuple h1
      obtain ⟨ks, a1, a2, a3⟩ := nestAll I (nest I n) a _ its (by simpa [keyish] using hk) h2 rv
      exact ⟨.tup ks, by rw [NestedKey.data, a1], .tup ho hc hd (by simpa using a2), by rw [NestedKey.depth]; omega⟩
  | n, .none, _, _, hk, _, _ => by cases n <;> simp [keyish] at hk
  | n, .bool _, _, _, hk, _, _ => by cases n <;> simp [keyish] at hk
  | n, .str _, _, _, hk, _, _ => by cases n <;> simp [keyish] at hk
  | n, .list _, _, _, hk, _, _ => by cases n <;> simp [keyish] at hk
  | n, .dict _, _, _, hk, _, _ => by cases n <;> simp [keyish] at hk
end
mutual
theorem data_inj : ∀ (a b : NestedKey), a.data = b.data → a = b
  | .none, b, h => by cases b <;> simp [NestedKey.data] at h <;> rfl
  | .num i, b, h => by cases b <;> simp [NestedKey.data] at h; subst h; rfl
  | .text i, b, h => by cases b <;> simp [NestedKey.data] at h; subst h; rfl
  | .tup ks, b, h => by
    cases b with
    | tup ls =>
      simp only [NestedKey.data, PyData.tuple.injEq] at h
      rw [datas_inj ks ls h]
    | _ => simp [NestedKey.data] at h
theorem datas_inj : ∀ (a b : List NestedKey), NestedKey.datas a = NestedKey.datas b → a = b
  | [], b, h => by cases b <;> simp [NestedKey.datas] at h; rfl
  | k :: ks, b, h => by
    cases b with
    | nil => simp [NestedKey.datas] at h
    | cons l ls =>
      simp only [NestedKey.datas, List.cons.injEq] at h
      rw [data_inj k l h.1, datas_inj ks ls h.2]
end
theorem all2_key {n : Nat} (ih : ∀ (a b : NestedKey), keyish n a.data = true → keyish n b.data = true → deq n a.data b.data = decide (a = b)) : ∀ (a b : List NestedKey), (NestedKey.datas a).all (keyish n) = true → (NestedKey.datas b).all (keyish n) = true → all2 (deq n) (NestedKey.datas a) (NestedKey.datas b) = decide (a = b)
  | [], [], _, _ => by simp [NestedKey.datas, all2]
  | [], _ :: _, _, _ => by simp [NestedKey.datas, all2]
  | _ :: _, [], _, _ => by simp [NestedKey.datas, all2]
  | a :: as, b :: bs, h1, h2 => by
    simp only [NestedKey.datas, List.all_cons, Bool.and_eq_true] at h1 h2
    rw [NestedKey.datas, NestedKey.datas, all2, ih a b h1.1 h2.1, all2_key ih as bs h1.2 h2.2]
    by_cases e1 : a = b
    · by_cases e2 : as = bs
      · rw [decide_eq_true e1, decide_eq_true e2, e1, e2, decide_eq_true rfl]; rfl
      · rw [decide_eq_false e2, Bool.and_false]
        exact (decide_eq_false fun q => e2 (List.cons.inj q).2).symm
    · rw [decide_eq_false e1, Bool.false_and]
      exact (decide_eq_false fun q => e1 (List.cons.inj q).1).symm
theorem deq_key : ∀ (n : Nat) (a b : NestedKey), keyish n a.data = true → keyish n b.data = true → deq n a.data b.data = decide (a = b)
  | n, .num i, b, _, h2 => by
    cases b with
    | num j =>
      have e : deq n (.int i) (.int j) = decide (i = j) := by cases n <;> rfl
      show deq n (.int i) (.int j) = _
      rw [e]
      by_cases c : i = j
      · subst c; rw [decide_eq_true rfl, decide_eq_true rfl]
      · rw [decide_eq_false c]
        exact (decide_eq_false fun q => c (NestedKey.num.inj q)).symm
    | tup ls =>
      have e : deq n (.int i) (.tuple (NestedKey.datas ls)) = false := by cases n <;> rfl
      show deq n (.int i) (.tuple (NestedKey.datas ls)) = _
      rw [e]
      exact (decide_eq_false fun q => by cases q).symm
    | none => cases n <;> simp [NestedKey.data, keyish] at h2
    | text _ => cases n <;> simp [NestedKey.data, keyish] at h2
  | 0, .tup ks, b, h1, _ => by simp [NestedKey.data, keyish] at h1
  | n + 1, .tup ks, b, h1, h2 => by
    cases b with
    | num j =>
      show deq (n + 1) (.tuple (NestedKey.datas ks)) (.int j) = _
      rw [show deq (n + 1) (.tuple (NestedKey.datas ks)) (.int j) = false from rfl]
      exact (decide_eq_false fun q => by cases q).symm
    | tup ls =>
      show all2 (deq n) (NestedKey.datas ks) (NestedKey.datas ls) = _
      rw [all2_key (deq_key n) ks ls (by simpa [NestedKey.data, keyish] using h1) (by simpa [NestedKey.data, keyish] using h2)]
      by_cases c : ks = ls
      · subst c; rw [decide_eq_true rfl, decide_eq_true rfl]
      · rw [decide_eq_false c]
        exact (decide_eq_false fun q => c (NestedKey.tup.inj q)).symm
    | none => simp [NestedKey.data, keyish] at h2
    | text _ => simp [NestedKey.data, keyish] at h2
  | n, .none, _, h1, _ => by cases n <;> simp [NestedKey.data, keyish] at h1
  | n, .text _, _, h1, _ => by cases n <;> simp [NestedKey.data, keyish] at h1
theorem keyish_of {d : D} (h : isKey d = true) : keyish 8 d = true := by
  cases d with
  | tuple a => exact h
  | _ => cases h
theorem key_nd {d : D} (h : isKey d = true) : nd d = true := by
  cases d with
  | dict _ => cases h
  | _ => rfl
theorem flat_nd {d : D} (h : flat d = true) : nd d = true := by
  cases d with
  | dict _ => cases h
  | _ => rfl

/-! ### the entries -/
section
variable {T : Kit} {B H : Hp}
theorem ents_find : ∀ {m : Kvs} {xs : List Ent} {k : NestedKey}, Paired (fun (p : D × D) (x : Ent) => (p.1 = x.1.data ∧ isKey p.1 = true ∧ Dp T.K B (.ref x.2.1) p.1) ∧ flat p.2 = true ∧ ∃ v, RelV v x.2.2 ∧ Dp T.K B v p.2) m xs → isKey k.data = true →
    (kHas m k.data = (atKey xs k).isSome) ∧ ∀ d, kGet m k.data = some d → ∃ p v, atKey xs k = some p ∧ RelV v p.2 ∧ Dp T.K B v d
  | _, _, k, .nil, _ => ⟨rfl, fun d h => by cases h⟩
  | _, _, k, .cons (a := p) (b := x) (l₁ := m) (l₂ := xs) h t, hk => by
    obtain ⟨⟨h1, h2, h3⟩, h4, v, h5, h6⟩ := h
    obtain ⟨i1, i2⟩ := ents_find t hk
    have e : deq 8 p.1 k.data = decide (x.1 = k) := by
      rw [h1]
      rw [h1] at h2
      exact deq_key 8 x.1 k (keyish_of h2) (keyish_of hk)
    by_cases c : x.1 = k
    · rw [decide_eq_true c] at e
      have ea : atKey (x :: xs) k = some x.2 := by
        unfold atKey
        rw [List.find?_cons, decide_eq_true c]
        rfl
      refine ⟨?_, fun d hd => ?_⟩
      · unfold kHas
        rw [List.any_cons, e, ea]
        rfl
      · rw [kGet, if_pos e] at hd
        cases hd
        exact ⟨x.2, v, ea, h5, h6⟩
    · rw [decide_eq_false c] at e
      have ea : atKey (x :: xs) k = atKey xs k := by
        unfold atKey
        rw [List.find?_cons, decide_eq_false c]
      refine ⟨?_, fun d hd => ?_⟩
      · unfold kHas at i1 ⊢
        rw [List.any_cons, e, ea, Bool.false_or]
        exact i1
      · rw [kGet, e, if_neg Bool.false_ne_true] at hd
        rw [ea]
        exact i2 d hd
theorem ents_map {k : NestedKey} {u : Value} {v : V} {d : D} (hk : isKey k.data = true) (hf : flat d = true) (rv : RelV v u) (hd : Dp T.K B v d) : ∀ {m : Kvs} {xs : List Ent}, Paired (fun (p : D × D) (x : Ent) => (p.1 = x.1.data ∧ isKey p.1 = true ∧ Dp T.K B (.ref x.2.1) p.1) ∧ flat p.2 = true ∧ ∃ v, RelV v x.2.2 ∧ Dp T.K B v p.2) m xs →
    Paired (fun (p : D × D) (x : Ent) => (p.1 = x.1.data ∧ isKey p.1 = true ∧ Dp T.K B (.ref x.2.1) p.1) ∧ flat p.2 = true ∧ ∃ v, RelV v x.2.2 ∧ Dp T.K B v p.2) (m.map fun p => if deq 8 p.1 k.data then (p.1, d) else p) (xs.map (putAt k u))
  | _, _, .nil => .nil
  | _, _, .cons (a := p) (b := x) h t => by
    refine .cons ?_ (ents_map hk hf rv hd t)
    obtain ⟨⟨h1, h2, h3⟩, h4, w', h5, h6⟩ := h
    have e : deq 8 p.1 k.data = decide (x.1 = k) := by
      rw [h1]
      rw [h1] at h2
      exact deq_key 8 x.1 k (keyish_of h2) (keyish_of hk)
    by_cases c : x.1 = k
    · dsimp only
      rw [e, decide_eq_true c, if_pos rfl, putAt, if_pos c]
      exact ⟨⟨h1, h2, h3⟩, hf, v, rv, hd⟩
    · dsimp only
      rw [e, decide_eq_false c, if_neg Bool.false_ne_true, putAt, if_neg c]
      exact ⟨⟨h1, h2, h3⟩, h4, w', h5, h6⟩
theorem ents_put {m : Kvs} {xs : List Ent} {k : NestedKey} {a : Addr} {u : Value} {v : V} {d : D} (h : Ents T B m xs) (hk : isKey k.data = true) (ha : Dp T.K B (.ref a) k.data) (hf : flat d = true) (rv : RelV v u) (hd : Dp T.K B v d) (hz : m.length < LIM) :
    Ents T B (kPut m k.data d) (storedH xs k a u) := by
  obtain ⟨i1, _⟩ := ents_find h.each hk
  have hl : m.length = xs.length := Paired.length h.each
  have hL := lim_eq
  unfold kPut storedH
  rw [i1]
  by_cases c : (atKey xs k).isSome = true
  · rw [if_pos c, if_pos c]
    exact ⟨by rw [keys_map_putAt]; exact h.nd, ents_map hk hf rv hd h.each, by rw [List.length_map]; exact h.sz⟩
  · rw [if_neg c, if_neg c]
    have hn : k ∉ xs.map (·.1) := fun hm => by
      obtain ⟨x, hx, rfl⟩ := List.mem_map.mp hm
      obtain ⟨j, hj⟩ := List.mem_iff_getElem?.mp hx
      rw [atKey_of_get h.nd (k := x.1) (p := x.2) hj] at c
      exact c rfl
    refine ⟨?_, Paired.snoc h.each ⟨⟨rfl, hk, ha⟩, hf, v, rv, hd⟩, by rw [List.length_append]; show xs.length + 1 ≤ _; omega⟩
    rw [List.map_append, List.nodup_append]
    refine ⟨h.nd, by simp, fun x hx y hy => ?_⟩
    simp only [List.map_cons, List.map_nil, List.mem_singleton] at hy
    subst hy
    exact fun q => hn (q ▸ hx)
end
section
variable {X : Cx} {pins : List (Addr × Obj)} {σ : L2.St} {H B : Hp} {s : Shared} {p : Addr} {xs : List Ent} {m : Kvs}
theorem ents_is (I : Inv X pins σ H s) (ie : Ex B H) (h : Ents (kit X) B m xs) : ∀ x ∈ xs, (nestedKind X.prog X.w).is s.heap x.1 x.2.1 := by
  have : ∀ {m : Kvs} {xs : List Ent}, Paired (fun (p : D × D) (x : Ent) => (p.1 = x.1.data ∧ isKey p.1 = true ∧ Dp X.K B (.ref x.2.1) p.1) ∧ flat p.2 = true ∧ ∃ v, RelV v x.2.2 ∧ Dp X.K B v p.2) m xs → ∀ x ∈ xs, (nestedKind X.prog X.w).is s.heap x.1 x.2.1 := by
    intro m xs q
    induction q with
    | nil => intro x hx; exact nomatch hx
    | cons hq t ih =>
      intro x hx
      rcases List.mem_cons.mp hx with e | hx
      · subst e
        obtain ⟨⟨h1, h2, h3⟩, _⟩ := hq
        obtain ⟨k, a1, a2, a3⟩ := nest I 8 _ _ _ (keyish_of h2) (h3.mono ie) rfl
        rw [h1] at a1
        rw [← data_inj _ _ a1]
        exact ⟨a2, a3⟩
      · exact ih x hx
  exact this h.each
theorem dict_of (I : Inv X pins σ H s) (ie : Ex B H) (hp : H p = some (dOb (kit X) p xs)) (h : Ents (kit X) B m xs) : s.heap.DictOfH (nestedKind X.prog X.w) p xs := by
  obtain ⟨⟨o, es, ep, h1, h2, h3, h4⟩, _⟩ := I.hok p _ hp
  exact ⟨o, es, ep, h1, h2, h3, h4, ents_is I ie h, h.nd⟩
theorem dOb_ok {T : Kit} {h : Heap} {xs : List Ent} (x : ∃ o es ep, h.get? p = some o ∧ o.ExactDict ∧ o.data = .dict es ep ∧ es.toList = xs.map (entryOfKey (nestedKind T.P T.w))) : ObjOk T.P T.w H h p (dOb T p xs) :=
  ⟨x, let ⟨o, _, _, e, _⟩ := x; ⟨o, e⟩, fun h1 h2 ⟨o, es, ep, e, r⟩ k => ⟨o, es, ep, k o e, r⟩⟩
end

/-! ### in, d[k], len -/
section
variable {X : Cx}
def rInN (T : Kit) (neg : Bool) : R2 := fun x y H Q => ∃ B m d, Ex B H ∧ Rp T B y (.dict m) ∧ Rp T B x d ∧ isKey d = true ∧ Q (.bl (if neg then !kHas m d else kHas m d)) H
theorem in_core {neg : Bool} (hu : X.A.units + 64 < cLine) {pins : List (Addr × Obj)} {σ : L2.St} {H : Hp} {s : Shared} {x y : V} {v u : Value} {Q : VK} (I : Inv X pins σ H s) (rx : RelV x v) (ry : RelV y u) (h : rInN (kit X) neg x y H Q) :
    ∃ a p xs k, v = .ref a ∧ u = .ref p ∧ (p == sysModules) = false ∧ s.heap.DictOfH (nestedKind X.prog X.w) p xs ∧ (nestedKind X.prog X.w).is s.heap k a ∧ Q (.bl (if neg then !(atKey xs k).isSome else (atKey xs k).isSome)) H := by
  obtain ⟨B, m, d, ie, hy, hx, hk, q⟩ := h
  obtain ⟨p, rfl, xs, h1, h2, h3⟩ := rp_dict hy
  cases ry
  have hd := (Rp.dp hx (key_nd hk)).mono ie
  obtain ⟨k, a1, a2, a3⟩ := nest I 8 _ _ _ (keyish_of hk) hd rx
  subst a1
  have ev : ∃ a, v = .ref a := by
    cases k with
    | tup ks => cases a2; exact ⟨_, rfl⟩
    | _ => cases hk
  obtain ⟨a, rfl⟩ := ev
  obtain ⟨i1, _⟩ := ents_find h3.each hk
  refine ⟨a, p, xs, k, rfl, rfl, h2, dict_of I ie (ie p _ h1) h3, ⟨a2, a3⟩, ?_⟩
  rw [← i1]
  exact q
theorem op_inN (hu : X.A.units + 64 < cLine) : OpR X (compareOp .In) (rInN (kit X) false) := by
  intro pins s σ H x y v u Q I rx ry h
  obtain ⟨a, p, xs, k, rfl, rfl, h1, h2, h3, q⟩ := in_core hu I rx ry h
  exact wpAny_in_heap (show X.A.units + 1 + 8 < cLine by omega) h3 h1 h2 ⟨.bl _, H, I.tok _, rfl, q⟩
theorem op_niN (hu : X.A.units + 64 < cLine) : OpR X (compareOp .NotIn) (rInN (kit X) true) := by
  intro pins s σ H x y v u Q I rx ry h
  obtain ⟨a, p, xs, k, rfl, rfl, h1, h2, h3, q⟩ := in_core hu I rx ry h
  refine notIn_keyed (kvs := pairsH xs) (show X.A.units + 1 + 8 < cLine by omega) h3 h1 ⟨xs, h2, rfl⟩ ?_
  rw [valueAt_pairsH, Option.isSome_map]
  exact ⟨.bl _, H, I.tok _, rfl, q⟩
theorem cd_inN {T : Kit} : CmD T (rInN T false) cInD := by
  intro B H x y dx dy d Q ie hx hy e k
  unfold cInD at e
  split at e
  · split at e
    · rename_i hk
      cases e
      exact ⟨B, _, _, ie, hy, hx, hk, k B H (Grow.refl ie)⟩
    · cases e
  · cases e
theorem cd_niN {T : Kit} : CmD T (rInN T true) cNiDd := by
  intro B H x y dx dy d Q ie hx hy e k
  obtain ⟨b, e', rfl⟩ := map1 e
  unfold cInD at e'
  split at e'
  · split at e'
    · rename_i hk
      cases e'
      exact ⟨B, _, _, ie, hy, hx, hk, k B H (Grow.refl ie)⟩
    · cases e'
  · cases e'
def rGetN (T : Kit) : R2 := fun x y H Q => ∃ B m d e, Ex B H ∧ Rp T B x (.dict m) ∧ Rp T B y d ∧ isKey d = true ∧ kGet m d = some e ∧ ∀ v, Dp T.K B v e → Q v H
theorem ix_dict (hu : X.A.units + 64 < cLine) : IxR X (rGetN (kit X)) := by
  intro value slice pins s σ H x y v u Q I rx ry ⟨B, m, d, e, ie, hx, hy, hk, hg, q⟩ hs
  obtain ⟨p, rfl, xs, h1, h2, h3⟩ := rp_dict hx
  cases rx
  have hd := (Rp.dp hy (key_nd hk)).mono ie
  obtain ⟨k, a1, a2, a3⟩ := nest I 8 _ _ _ (keyish_of hk) hd ry
  subst a1
  have ev : ∃ a, u = .ref a := by
    cases k with
    | tup ks => cases a2; exact ⟨_, rfl⟩
    | _ => cases hk
  obtain ⟨a, rfl⟩ := ev
  obtain ⟨_, i2⟩ := ents_find h3.each hk
  obtain ⟨pr, w', h4, h5, h6⟩ := i2 e hg
  have hm := dict_of I ie (ie p _ h1) h3
  exact tail_any hm.typeIs PySem.F.slot_dict_getitem.lookup (wpAny_getItem_heap (knd := nestedKind X.prog X.w) (k := k) (show X.A.units + 1 + 8 < cLine by omega) ⟨a2, a3⟩ hm h4 ⟨w', H, I.tok _, h5, q w' h6⟩) hs
theorem od_get {T : Kit} : OpD T (rGetN T) oGet := by
  intro B H x y dx dy d Q ie hx hy e k
  unfold oGet at e
  split at e
  · split at e
    · rename_i hk
      exact ⟨B, _, _, _, ie, hx, hy, hk, e, fun v hv => k v B H (Grow.refl ie) (.inl hv)⟩
    · cases e
  · cases e
def rLenN (T : Kit) : List V → Hp → VK → Prop := fun vs H Q => ∃ B m v, vs = [v] ∧ Ex B H ∧ Rp T B v (.dict m) ∧ Q (.int m.length) H
theorem call_lenN : CallR X (.builtin "len") (rLenN (kit X)) := by
  intro pins s σ H xs us Q I r ⟨B, m, v, e, ie, hv, q⟩
  subst e
  obtain ⟨u, rfl, rx⟩ := vals1 r
  obtain ⟨p, rfl, ents, h1, h2, h3⟩ := rp_dict hv
  cases rx
  have hm := dict_of I ie (ie p _ h1) h3
  have hl : m.length = ents.length := Paired.length h3.each
  have hz := h3.sz
  have hL := sizeLine_eq
  obtain ⟨es, ep, hr, hs, _⟩ := hm.raw
  have e1 : es.size = m.length := by rw [hs, hl]
  have fin : ∀ t tk, EP X pins σ Q (.int (m.length : Int) t) { s with toks := tk } := fun t tk => ⟨.int _, H, I.tok _, ⟨t, rfl⟩, q⟩
  refine PyProof.Rows.call_len_slot (n := m.length) hm.typeIs PySem.F.slot_dict_len (fun Q' hq => call_len_raw h2 hr (by rw [e1]; exact hq)) (by omega) (by omega) ?_
  exact fin _ _
theorem ld_lenN {T : Kit} : ClD T (rLenN T) fLenD := by
  intro B H vs ds d Q ie hv e k
  unfold fLenD at e
  split at e
  · cases e
    obtain ⟨v, rfl, h⟩ := rps1 hv
    exact ⟨B, _, v, rfl, ie, h, k _ B H (Grow.refl ie) (.inl (.int _))⟩
  · cases e
end
end Sk
/-! SkLay10: sorted -/
namespace PySem.SeqAt
open PySem
section
variable {A : Around} {s : Shared}
theorem sk_tuple_lt {prog : Program} {w : World} {E : Value → Shared → Prop} {Q : Value → Shared → Prop} {l b : Addr} {items items2 : Array Value} {e r : Nat → Bool} (hl : s.heap.IsTuple l items) (hb : s.heap.IsTuple b items2)
    (he : ∀ j (h1 : j < items.size) (h2 : j < items2.size), EqAt A.in1 s items[j] items2[j] (e j)) (hr : ∀ j (h1 : j < items.size) (h2 : j < items2.size), e j = false → RcLt A.in1 s items[j] items2[j] (r j))
    (h : Q (.bool (firstLt e r (decide (items.size < items2.size)) (List.range (min items.size items2.size)))) s) : wpAny (model prog w) A (call (.builtin "tuple.__lt__") [.ref l, .ref b]) Q E s := by
  obtain ⟨⟨c1, d1, t1, s1⟩, ho, hc, n, hd⟩ := id hl
  obtain ⟨⟨c2, d2, t2, s2⟩, ho2, hc2, n2, hd2⟩ := id hb
  simp only at hc hd hc2 hd2
  subst hc hd hc2 hd2
  exact call_meets F.slot_tuple_lt ⟨_, ho, rfl⟩ F.entry_tuple_lt (F.args_tuple_lt_2 _ _) (tuple_ltAt l b items items2 n n2 d1 d2 s1 s2 e r) ⟨ho, ho2, he, hr, h⟩
end
end PySem.SeqAt
namespace PySem.W
open PySem PySem.Calls PyProof.Rows PySem.SeqAt
section
variable {prog : Program} {w : World} {A : Around} {E : Value → Shared → Prop} {s : Shared}
theorem sk_oneLt_tup {xs ys : List PyData} {a b : Value} {as bs : List Addr} {Q : Bool → Shared → Prop} (ra : Reads s.heap a (.tuple xs) as) (rb : Reads s.heap b (.tuple ys) bs) (h : alike (.tuple xs) (.tuple ys) = true)
    (hu : A.units + min (PyData.depth (.tuple xs)) (PyData.depth (.tuple ys)) < cLine) (hq : Q (dataLt (.tuple xs) (.tuple ys)) s) : wpAny (model prog w) A (oneLt' true a b) Q E s := by
  have hal : alikeAll xs ys = true := by simpa [alike] using h
  cases ra with
  | @tuple l o vs n _ as₁ h1 h2 h3 h4 =>
    cases rb with
    | @tuple l' o' vs' n' _ bs₁ k1 k2 k3 k4 =>
      have n1 : vs.size = xs.length := by simpa using ReadsAll.length _ _ _ h4
      have n2 : vs'.size = ys.length := by simpa using ReadsAll.length _ _ _ k4
      rw [dataLt_tuple, ← firstLt_toks xs ys hal, ← n1, ← n2] at hq
      rw [oneLt'_eq]
      simp only [if_true]
      refine wpAny_bind (wpAny_cRoomFor (room_here hu) ?_)
      refine wpAny_bind (wpAny_callSpecialIfBound?_slot (T := "tuple") ⟨_, h1, h2⟩ F.slot_tuple_lt (sk_tuple_lt (e := pairEq xs ys) (r := fun j => dataLt (xs.getD j .none) (ys.getD j .none)) ⟨_, h1, h2, _, h3⟩ ⟨_, k1, k2, _, k3⟩ (fun j j1 j2 => ?_) (fun j j1 j2 hj => ?_) ?_))
      · have := eqAt_alikeAll xs ys A.in1 s vs.toList vs'.toList _ _ h4 k4 hal (room_in hu) j (by simpa using j1) (by simpa using j2)
        simpa using this
      · have := rcLt_alikeAll xs ys A.in1 s vs.toList vs'.toList _ _ h4 k4 hal (room_in hu) j (by simpa using j1) (by simpa using j2) hj
        simpa using this
      · exact wpAny_truthy_bool hq
theorem sk_mapM {α β : Type} {M : Model} {f : α → Sem β} {P : α → β → Prop} : ∀ (l : List α) {Q : List β → Shared → Prop}, (∀ v ∈ l, ∀ (Q' : β → Shared → Prop), (∀ r, P v r → Q' r s) → wpAny M A (f v) Q' E s) → (∀ bs, Paired P l bs → Q bs s) → wpAny M A (l.mapM f) Q E s
  | [], _, _, h => by rw [List.mapM_nil]; exact wpAny_pure (h [] .nil)
  | x :: l, Q, hf, h => by
    rw [List.mapM_cons]
    exact wpAny_bind (hf x (.head _) _ fun r hr => wpAny_bind (sk_mapM l (fun v hv => hf v (.tail _ hv)) fun bs hbs => wpAny_pure (h (r :: bs) (.cons hr hbs))))
/-- the first is the empty tuple, all are tuples -/
theorem sk_kind {v : Value} {vs : List Value} {Q : SortKind → Shared → Prop} (h0 : ∃ a, v = .ref a ∧ IsTup s.heap a #[]) (hT : ∀ u ∈ v :: vs, ∃ a items, u = .ref a ∧ IsTup s.heap a items) (h : Q oneType' s) :
    wpAny (model prog w) A (keyKind' (v :: vs).toArray) Q E s := by
  have one : ∀ (u : Value) (a : Addr) (items : Array Value), u = .ref a → IsTup s.heap a items → ∀ (Q' : Option Value → Shared → Prop), Q' items[0]? s → wpAny (model prog w) A (firstOfTuple' u) Q' E s := by
    rintro u a items rfl hi Q' hq
    rw [kas_first_eq]
    refine wpAny_bind (wpAny_typeOf hi.typeIs ?_)
    rw [if_neg (by decide)]
    obtain ⟨o, ho, hc, n, hd⟩ := hi
    exact wpAny_bind (wpAny_listItems ho hd (wpAny_pure hq))
  rw [keyKind'_eq, List.mapM_toArray, map_eq_pure_bind]
  refine wpAny_bind (wpAny_bind (sk_mapM (P := fun u r => u = v → r = none) _ (fun u hu Q' hq => ?_) fun bs hbs => wpAny_pure ?_))
  · obtain ⟨a, items, rfl, hi⟩ := hT u hu
    refine one _ a items rfl hi Q' (hq _ fun e => ?_)
    obtain ⟨a', e', hi'⟩ := h0
    subst e
    cases e'
    obtain ⟨o, ho, _, n, hd⟩ := hi
    obtain ⟨o', ho', _, n', hd'⟩ := hi'
    rw [ho] at ho'; cases ho'
    rw [hd] at hd'
    injection hd' with q _
    rw [q]; rfl
  · cases hbs with
    | cons hr ht =>
      rename_i r rs
      have e := hr rfl
      subst e
      rw [if_neg (by simp), if_neg (by simp)]
      rw [oneTypeOnly'_eq, List.mapM_toArray, map_eq_pure_bind]
      refine wpAny_bind (wpAny_bind (wpAny_bind (kas_mapM (r := Value.type "tuple") _ (fun u hu Q' hq => ?_) (wpAny_pure ?_))))
      · obtain ⟨a, items, rfl, hi⟩ := hT u hu
        exact wpAny_typeOf hi.typeIs hq
      · have hall : ((List.map (fun _ => Value.type "tuple") (v :: vs)).toArray.all fun x => x == Value.type "tuple") = true := by
          simp only [List.all_toArray, List.all_map, List.all_eq_true]
          intro _ _
          exact (by decide : (Value.type "tuple" == Value.type "tuple") = true)
        have h0' : (List.map (fun _ => Value.type "tuple") (v :: vs)).toArray[0]? = some (Value.type "tuple") := by simp
        rw [h0']
        simp only [hall, if_true]
        exact wpAny_pure (wpAny_pure h)
theorem sk_sortsAt {vs : List Value} {ds : List PyData} (e : EachIs (fun v d => ∃ as, Reads s.heap v d as) vs (.tuple [] :: ds)) (hal : AllAlike (.tuple [] :: ds)) (hk : ∀ d ∈ ds, ∃ xs, d = .tuple xs) (hu : ∀ d, d ∈ (.tuple [] :: ds) → A.units + d.depth < cLine) :
    SortsAt prog w A s (dataKind s.heap (.tuple [] :: ds)) vs := by
  have room : ∀ {d d' : PyData}, d ∈ (.tuple [] :: ds : List PyData) → A.units + min d.depth d'.depth < cLine := fun {d d'} hd => Nat.lt_of_le_of_lt (Nat.add_le_add_left (Nat.min_le_left _ _) _) (hu d hd)
  have tup : ∀ d ∈ (.tuple [] :: ds : List PyData), ∃ xs, d = .tuple xs := fun d hd => by
    rcases List.mem_cons.mp hd with rfl | hd
    · exact ⟨[], rfl⟩
    · exact hk d hd
  refine ⟨fun v hv => ?_, oneType', ?_, fun h2 E Q hq => ?_⟩
  · obtain ⟨d, hd, as, r⟩ := e.left v hv
    exact ⟨_, dataKind_some hal hd r⟩
  · intro E x y a b Q ha hb hq
    obtain ⟨d, as, hd, ra, rfl⟩ := dataKind_inv ha
    obtain ⟨d', as', hd', rb, rfl⟩ := dataKind_inv hb
    rw [keyLt'_oneType]
    obtain ⟨xs, rfl⟩ := tup d hd
    obtain ⟨ys, rfl⟩ := tup d' hd'
    exact sk_oneLt_tup ra rb (hal _ hd _ hd') (room hd) hq
  · have is_tup : ∀ {u : Value} {xs : List PyData} {as : List Addr}, Reads s.heap u (.tuple xs) as → ∃ a items, u = .ref a ∧ IsTup s.heap a items ∧ (xs = [] → items = #[]) := by
      intro u xs as r
      cases r with
      | @tuple l o vs n _ _ h1 h2 h3 h4 =>
        refine ⟨l, vs, rfl, ⟨o, h1, h2, n, h3⟩, fun q => ?_⟩
        subst q
        cases hvs : vs.toList with
        | nil => exact Array.toList_eq_nil_iff.mp hvs
        | cons _ _ => rw [hvs] at h4; cases h4
    cases e with
    | cons h0 ht =>
      rename_i v vs'
      refine sk_kind ?_ (fun u hu => ?_) hq
      · obtain ⟨as, r⟩ := h0
        obtain ⟨a, items, rfl, hi, q⟩ := is_tup r
        exact ⟨a, rfl, by rw [← q rfl]; exact hi⟩
      · obtain ⟨d, hd, as, r⟩ := (EachIs.cons (R := fun v d => ∃ as, Reads s.heap v d as) h0 ht).left u hu
        obtain ⟨xs, rfl⟩ := tup d hd
        obtain ⟨a, items, rfl, hi, _⟩ := is_tup r
        exact ⟨a, items, rfl, hi⟩
end
section
variable {prog : Program} {w : World} {A : Around} {E : Value → Shared → Prop} {s : Shared} {β : Type} {vs : List Value} {R : Value → PyData → Prop}
/-- sorted(xs), where the first item is the empty tuple -/
theorem sk_sorted_tup0 {ds : List PyData} {l : Addr} {Q : Value → Shared → Prop} (hl : s.heap.IsList l vs.toArray) (e : EachIs R vs (.tuple [] :: ds)) (er : EachIs (fun v b => ∃ as, Reads s.heap v b as) vs (.tuple [] :: ds)) (hal : AllAlike (.tuple [] :: ds)) (hk : ∀ d ∈ ds, ∃ xs, d = .tuple xs) (hL : (PyData.tuple [] :: ds).length ≤ sizeLine)
    (hu : ∀ b, b ∈ (.tuple [] :: ds : List PyData) → A.units + 2 + b.depth < cLine) (h : ∀ out, out.length = (PyData.tuple [] :: ds).length → EachIs R out ((.tuple [] :: ds : List PyData).mergeSort (dataLe false id)) → Q (.ref (s.heap.objs.size + 1)) { s with heap := sortedAll s.heap vs (List.toArray out) }) :
    wpAny (model prog w) A (call (.builtin "sorted") [.ref l]) Q E s := by
  have er' : EachIs (fun v b => ∃ as, Reads (sortingHeap (copyHeap s.heap vs) (s.heap.objs.size + 1) vs) v b as) vs (.tuple [] :: ds) := er.mono fun _ _ ⟨as, r⟩ => ⟨as, PyProof.Rows.Reads.keeps (fun _ _ => sorting_copy_old) r⟩
  refine sorted_vals hl (sk_sortsAt (s := { s with heap := sortingHeap (copyHeap s.heap vs) (s.heap.objs.size + 1) vs }) er' hal hk hu) (by rw [e.length]; exact hL) (h _ (by rw [sortVals_length false rfl]; exact e.length) ?_)
  have q := sortVals_data (h' := sortingHeap (copyHeap s.heap vs) (s.heap.objs.size + 1) vs) (enc := id) (R := R) (bs := (.tuple [] :: ds)) false e er' (by rw [List.map_id]; exact hal)
  rw [List.map_id] at q
  exact q
end
end PySem.W

namespace Sk
open PySem PySem.Spec PyProof.Rows L2 Evl PySem.W
theorem alike_intsL : ∀ (xs ys : List D), xs.all isInt = true → ys.all isInt = true → alikeAll xs ys = true
  | [], _, _, _ => by simp [alikeAll]
  | _ :: _, [], _, _ => by simp [alikeAll]
  | x :: xs, y :: ys, h1, h2 => by
    rw [List.all_cons, Bool.and_eq_true] at h1 h2
    rw [alikeAll, alike_intsL xs ys h1.2 h2.2, Bool.and_true]
    cases x <;> cases y <;> first | rfl | (simp [isInt] at h1; done) | (simp [isInt] at h2; done)
theorem depth_intsL : ∀ (xs : List D), xs.all isInt = true → PyData.depthAll xs = 0
  | [], _ => by simp [PyData.depthAll]
  | x :: xs, h => by
    rw [List.all_cons, Bool.and_eq_true] at h
    rw [PyData.depthAll, depth_intsL xs h.2]
    cases x <;> first | (simp [PyData.depth]; done) | (simp [isInt] at h; done)
theorem isInt_of {d : D} (h : isInt d = true) : ∃ i, d = .int i := by
  cases d <;> first | exact ⟨_, rfl⟩ | cases h
theorem isInts_of {d : D} (h : isInts d = true) : ∃ xs, d = .tuple xs ∧ xs.all isInt = true := by
  cases d <;> first | exact ⟨_, rfl, h⟩ | cases h
theorem isInts1_of {d : D} (h : isInts1 d = true) : ∃ x xs, d = .tuple (x :: xs) ∧ (x :: xs).all isInt = true := by
  cases d with
  | tuple xs =>
    cases xs with
    | nil => cases h
    | cons x xs => exact ⟨x, xs, rfl, h⟩
  | _ => cases h
theorem isState_of {d : D} (h : isState d = true) : ∃ a b c xs ys, d = .tuple [.int a, .int b, .int c, .tuple xs, .tuple ys] ∧ xs.all isInt = true ∧ ys.all isInt = true := by
  unfold isState at h
  split at h
  · rw [Bool.and_eq_true] at h
    exact ⟨_, _, _, _, _, rfl, h.1, h.2⟩
  · cases h
theorem isRow_of {d : D} (h : isRow d = true) : ∃ s i, d = .tuple [s, .int i] ∧ isState s = true := by
  unfold isRow at h
  split at h
  · exact ⟨_, _, rfl, h⟩
  · cases h
theorem alike_state {x y : D} (h1 : isState x = true) (h2 : isState y = true) : alike x y = true := by
  obtain ⟨a, b, c, xs, ys, rfl, q1, q2⟩ := isState_of h1
  obtain ⟨a', b', c', xs', ys', rfl, q3, q4⟩ := isState_of h2
  simp [alike, alikeAll, alike_intsL _ _ q1 q3, alike_intsL _ _ q2 q4]
theorem depth_state {x : D} (h1 : isState x = true) : x.depth = 2 := by
  obtain ⟨a, b, c, xs, ys, rfl, q1, q2⟩ := isState_of h1
  simp [PyData.depth, PyData.depthAll, depth_intsL _ q1, depth_intsL _ q2]
/-- the order of sorted() -/
noncomputable def srt (ds : List D) : List D := ds.mergeSort (dataLe false id)
/-- what the sort asks -/
structure CanSort (ds : List D) : Prop where
  al : AllAlike ds
  dp : ∀ d ∈ ds, d.depth ≤ 3
  sh : Sortable ds ∨ ∃ r, ds = .tuple [] :: r ∧ ∀ d ∈ r, ∃ xs, d = .tuple xs
theorem canSort {ds : List D} (h : sortable ds = true) : CanSort ds := by
  unfold sortable at h
  rw [Bool.or_eq_true, Bool.or_eq_true, Bool.or_eq_true] at h
  rcases h with ((h | h) | h) | h
  · rw [List.all_eq_true] at h
    refine ⟨fun x hx y hy => ?_, fun x hx => ?_, .inl (.inr fun x hx => ?_)⟩
    · obtain ⟨i, rfl⟩ := isInt_of (h x hx)
      obtain ⟨j, rfl⟩ := isInt_of (h y hy)
      simp [alike]
    · obtain ⟨i, rfl⟩ := isInt_of (h x hx)
      simp [PyData.depth]
    · obtain ⟨i, rfl⟩ := isInt_of (h x hx)
      exact ⟨(fun z => by cases z), (fun xs z => by cases z)⟩
  · have tup : ∀ d ∈ ds, isInts d = true := by
      unfold isTups at h
      split at h
      · rw [List.all_eq_true] at h
        intro d hd
        rcases List.mem_cons.mp hd with rfl | hd
        · rfl
        · exact h d hd
      · rw [List.all_eq_true] at h
        intro d hd
        obtain ⟨x, xs, rfl, q⟩ := isInts1_of (h d hd)
        exact q
    refine ⟨fun x hx y hy => ?_, fun x hx => ?_, ?_⟩
    · obtain ⟨xs, rfl, q1⟩ := isInts_of (tup x hx)
      obtain ⟨ys, rfl, q2⟩ := isInts_of (tup y hy)
      simp [alike, alike_intsL _ _ q1 q2]
    · obtain ⟨xs, rfl, q1⟩ := isInts_of (tup x hx)
      simp [PyData.depth, depth_intsL _ q1]
    · unfold isTups at h
      split at h
      · rw [List.all_eq_true] at h
        refine .inr ⟨_, rfl, fun d hd => ?_⟩
        obtain ⟨xs, e, _⟩ := isInts_of (h d hd)
        exact ⟨xs, e⟩
      · rw [List.all_eq_true] at h
        refine .inl (.inl fun d hd => ?_)
        obtain ⟨x, xs, e, _⟩ := isInts1_of (h d hd)
        exact ⟨x, xs, e⟩
  · rw [List.all_eq_true] at h
    refine ⟨fun x hx y hy => alike_state (h x hx) (h y hy), fun x hx => by rw [depth_state (h x hx)]; decide, .inl (.inl fun x hx => ?_)⟩
    obtain ⟨a, b, c, xs, ys, rfl, _⟩ := isState_of (h x hx)
    exact ⟨_, _, rfl⟩
  · rw [List.all_eq_true] at h
    refine ⟨fun x hx y hy => ?_, fun x hx => ?_, .inl (.inl fun x hx => ?_)⟩
    · obtain ⟨a, i, rfl, q1⟩ := isRow_of (h x hx)
      obtain ⟨b, j, rfl, q2⟩ := isRow_of (h y hy)
      simp [alike, alikeAll, alike_state q1 q2]
    · obtain ⟨a, i, rfl, q1⟩ := isRow_of (h x hx)
      simp [PyData.depth, PyData.depthAll, depth_state q1]
    · obtain ⟨a, i, rfl, q1⟩ := isRow_of (h x hx)
      exact ⟨_, _, rfl⟩
section
variable {X : Cx} {pins : List (Addr × Obj)} {σ : L2.St} {H : Hp} {s : Shared}
/-- how values stand for data, in a heap -/
theorem each_of (I : Inv X pins σ H s) {B : Hp} (ie : Ex B H) : ∀ {ds : List D} {xs : List V} {its : List Value}, DpAll X.K B xs ds → Vals xs its →
    EachIs (fun u d => ∃ x, RelV x u ∧ Dp X.K B x d) its ds ∧ EachIs (fun u d => ∃ as, Reads s.heap u d as) its ds
  | [], _, _, h, r => by
    cases h
    cases r
    exact ⟨.nil, .nil⟩
  | d :: ds, _, _, h, r => by
    cases h with
    | cons h1 h2 =>
      cases r with
      | cons r1 r2 =>
        obtain ⟨a, b⟩ := each_of I ie h2 r2
        exact ⟨.cons ⟨_, r1, h1⟩ a, .cons (Dp.reads I d _ _ (h1.mono ie) r1) b⟩
theorem each_back {K : PySem.W.Frag} {B : Hp} : ∀ {out : List Value} {ds : List D}, EachIs (fun u d => ∃ x, RelV x u ∧ Dp K B x d) out ds → ∃ xs, Vals xs out ∧ DpAll K B xs ds
  | _, _, .nil => ⟨[], .nil, .nil⟩
  | _, _, .cons ⟨x, r, h⟩ t => by
    obtain ⟨xs, q1, q2⟩ := each_back t
    exact ⟨x :: xs, .cons r q1, .cons h q2⟩
def rSrt (T : Kit) : List V → Hp → VK → Prop := fun vs H Q => ∃ B v ds, vs = [v] ∧ Ex B H ∧ Rp T B v (.list ds) ∧ sortable ds = true ∧ ∀ p xs, H p = none → DpAll T.K B xs (srt ds) → Q (.ref p) (upd H p (.lst xs))
theorem cr_srt (hu : X.A.units + 64 < cLine) : CallR X (.builtin "sorted") (rSrt (kit X)) := by
  intro pins s σ H vs us Q I r ⟨B, v, ds, e, ie, hv, hs, q⟩
  subst e
  obtain ⟨u, rfl, rx⟩ := vals1 r
  obtain ⟨a, ys, rfl, h1, h2⟩ := rp_list hv
  cases rx
  obtain ⟨its, rv, hl, hz⟩ := I.list (ex_l ie h1)
  obtain ⟨e1, e2⟩ := each_of I ie h2 rv
  have c := canSort hs
  have hlen : ds.length ≤ sizeLine := by rw [← h2.len]; exact hz
  have fin : ∀ out : List Value, out.length = ds.length → EachIs (fun u d => ∃ x, RelV x u ∧ Dp X.K B x d) out (srt ds) → EP X pins σ Q (.ref (s.heap.objs.size + 1)) { s with heap := sortedAll s.heap its (List.toArray out) } := fun out ho he => by
    obtain ⟨xs, q1, q2⟩ := each_back he
    obtain ⟨ep, he'⟩ := PyProof.Rows.sortedAll_at s.heap its out.toArray
    have hn : H (s.heap.objs.size + 1) = none := I.hok.fresh (Nat.le_succ _)
    refine ⟨.ref _, upd H (s.heap.objs.size + 1) (.lst xs), I.laid (t' := s.toks) (fun _ _ => PyProof.Rows.sortedAll_old) (Nat.le_succ _) ⟨?_, out, ep, q1, he'⟩, rfl, q _ xs hn q2⟩
    rw [q1.length, ho]
    exact hlen
  rcases c.sh with sh | ⟨r, rfl, hr⟩
  · refine sorted_data (enc := id) (bs := ds) hl.isList e1 e2 (by rw [List.map_id]; exact c.al) (by rw [List.map_id]; exact sh) hlen (fun d hd => ?_) fin
    have := c.dp d hd
    show X.A.units + 2 + d.depth < cLine
    omega
  · refine sk_sorted_tup0 hl.isList e1 e2 c.al hr hlen (fun d hd => ?_) fin
    have := c.dp d hd
    omega
theorem ld_srt {T : Kit} : ClD T (rSrt T) (fSorted srt) := by
  intro B H vs ds d Q ie hv e k
  unfold fSorted at e
  split at e
  · split at e
    · rename_i hs
      cases e
      obtain ⟨v, rfl, h⟩ := rps1 hv
      refine ⟨B, v, _, rfl, ie, h, hs, fun p xs np q => ?_⟩
      obtain ⟨g, q'⟩ := new_lst (T := T) q ie np
      exact k _ _ _ g q'
    · cases e
  · cases e
end
end Sk
/-! SkLay11: dicts put together: {}, d[k] = v, comprehensions, dict(pairs), sorted(d), sorted(d.items()) -/
namespace Sk
open PySem PySem.Spec PyProof.Rows L2 Evl

section
variable {X : Cx} {pins : List (Addr × Obj)} {σ : L2.St} {H B : Hp} {s : Shared} {p : Addr} {xs : List Ent} {m : Kvs}
/-- the dict's object is changed -/
theorem put_write {h' : Heap} {t' : Nat} {xs' : List Ent} (I : Inv X pins σ H s) (hp : H p = some (dOb (kit X) p xs)) (hs : Heap.SameBut p s.heap h') (dd : h'.DictOfH (nestedKind X.prog X.w) p xs') :
    Inv X pins σ (upd H p (dOb (kit X) p xs')) { s with heap := h', toks := t' } := by
  obtain ⟨o, es, ep, h1, h2, h3, h4, _⟩ := dd
  exact d_write I (by rw [hp]; exact True.intro) hs ⟨o, h1⟩ (dOb_ok ⟨o, es, ep, h1, h2, h3, h4⟩)
/-- what a put asks and gives -/
def PutOk (T : Kit) (i v : V) (p : Addr) (H : Hp) (Q : Hp → Prop) : Prop := ∃ B m xs dk dv, Ex B H ∧ H p = some (dOb T p xs) ∧ Ents T B m xs ∧ Rp T B i dk ∧ isKey dk = true ∧ flat dv = true ∧ Rp T B v dv ∧ m.length < LIM ∧ ∀ xs', Ents T B (kPut m dk dv) xs' → Q (upd H p (dOb T p xs'))
theorem put_open {i v : V} {iv u : Value} {Q : Hp → Prop} (I : Inv X pins σ H s) (ri : RelV i iv) (rv : RelV v u) (h : PutOk (kit X) i v p H Q) :
    ∃ xs k a, iv = .ref a ∧ (nestedKind X.prog X.w).is s.heap k a ∧ s.heap.DictOfH (nestedKind X.prog X.w) p xs ∧ xs.length ≤ sizeLine ∧ ∀ h' t', h'.DictOfH (nestedKind X.prog X.w) p (storedH xs k a u) → Heap.SameBut p s.heap h' → ∃ H', Inv X pins σ H' { s with heap := h', toks := t' } ∧ Q H' := by
  obtain ⟨B, m, xs, dk, dv, ie, h1, h3, hx, hk, hf, hv, hz, q⟩ := h
  have hd := (Rp.dp hx (key_nd hk)).mono ie
  obtain ⟨k, a1, a2, a3⟩ := nest I 8 _ _ _ (keyish_of hk) hd ri
  subst a1
  have ev : ∃ a, iv = .ref a := by
    cases k with
    | tup ks => cases a2; exact ⟨_, rfl⟩
    | _ => cases hk
  obtain ⟨a, rfl⟩ := ev
  have hd0 := Rp.dp hx (key_nd hk)
  have hi : i = .ref a := by
    cases k with
    | tup ks => cases hd0; cases ri; rfl
    | _ => cases hk
  subst hi
  exact ⟨xs, k, a, rfl, ⟨a2, a3⟩, dict_of I ie h1 h3, h3.sz, fun h' t' dd hs => ⟨_, put_write I h1 hs dd, q _ (ents_put h3 hk hd0 hf rv (Rp.dp hv (flat_nd hf)) hz)⟩⟩
def rSetN (T : Kit) : V → V → V → Hp → (Hp → Prop) → Prop := fun o i v H Q => ∃ p, o = .ref p ∧ PutOk T i v p H Q
theorem set_dictN (hu : X.A.units + 64 < cLine) : PSet X (rSetN (kit X)) := by
  intro pins s σ H o i v ov iv u Q I ro ri rv ⟨p, e, h⟩
  subst e
  cases ro
  obtain ⟨xs, k, a, rfl, h1, h2, h3, h4⟩ := put_open I ri rv h
  exact wpAny_setItem_heap (hsz := h3) (show X.A.units + 1 + 8 < cLine by omega) h1 h2 fun h' dd hs => h4 _ _ dd hs
end
section
variable {X : Cx} {fr : Bool} {a e : Expr} {fe fi : FE} {pos : Pos} {x y : Str} {i j : Nat}
/-- x[y] = v, x a dict of one's own, y a name -/
theorem s_stD {p1 p2 p3 : Pos} {v : Expr} {fv : FE} (hu : X.A.units + 64 < cLine) (hN : X.N[i]? = some x) (hv : Vis X.env.scope x) (hN2 : X.N[j]? = some y) (hv2 : Vis X.env.scope y) (he : PED X false v fv) (hd : (x == ("__debug__" : Str)) = false := by decide) (hcd : (x == ("__classdict__" : Str)) = false := by decide)
    (hd2 : (y == ("__debug__" : Str)) = false := by decide) (hcd2 : (y == ("__classdict__" : Str)) = false := by decide)
    (ha : ∀ w, assign (.Subscript (.Name x p1) (.Name y p3) p2) X.env w = (do
      let ov ← holding [w] (eval (.Name x p1) X.env)
      let iv ← holding [w, ov] (eval (.Name y p3) X.env)
      standAt p2
      holding [w, ov, iv] (setItem ov iv w)
      release [w, ov, iv] []) := by intro _; rfl)
    (hs : swapsWithSole [.Subscript (.Name x p1) (.Name y p3) p2] v pos.line X.env = pure false := by rfl) (hw : swappedStores [.Subscript (.Name x p1) (.Name y p3) p2] v X.env = pure none := by rfl)
    (h1 : (assignEach [.Subscript (.Name x p1) (.Name y p3) p2] X.env).map (·.2) = [assign (.Subscript (.Name x p1) (.Name y p3) p2) X.env] := by rfl) :
    PSD X fr (.Assign [.Subscript (.Name x p1) (.Name y p3) p2] v pos) (sStD i j fv) :=
  ps_imp (ps_asg he (pg_sub (pe_var hN hv hd hcd) (pe_var hN2 hv2 hd2 hcd2) (set_dictN hu) ha) hs hw h1) fun Dn σ H ⟨B0, H0, B, g, o, h, hf, k⟩ => by
    unfold sStD at hf
    split at hf
    · rename_i m hg
      obtain ⟨d, e1, e2⟩ := bind1 hf
      obtain ⟨c, e3, e4⟩ := bind1 e2
      split at e4
      · rename_i hc
        cases e4
        rw [Bool.and_eq_true, Bool.and_eq_true] at hc
        obtain ⟨⟨hc1, hc2⟩, hc3⟩ := hc
        have hc3 := of_decide_eq_true hc3
        obtain ⟨x1, x2, x3⟩ := h.full
        obtain ⟨p, q1, q2, q3, q4⟩ := h.mu i _ hg
        rcases q4 with ⟨ds', xs, z1, _⟩ | ⟨m', z1, xs, z2, z3, z4⟩
        · cases z1
        · cases z1
          have e3' : (vI g)[j]? = some (some c) := by
            unfold eV at e3
            cases q : (vI g)[j]? with
            | none => rw [q] at e3; cases e3
            | some o => rw [q] at e3; exact congrArg some e3
          obtain ⟨kv, t1, t2⟩ := h.envI.at_ _ _ e3'
          refine ⟨_, vA g, d, x2.i, x3, e1, fun u B' H' gr q => ⟨_, q1, kv, t1, ?_⟩⟩
          have h' := h.heap gr.h
          refine ⟨p, rfl, B, m, xs, c, d, h'.gr.i, gr.h p _ z2, z4, t2, hc1, hc2, q.flat hc2, hc3, fun xs' en => ?_⟩
          exact k _ B _ (Ex.refl _) (h'.write hg q1 (.inr ⟨_, rfl, xs', rfl, z3, en⟩))
      · cases e4
    · cases hf
/-- {} -/
theorem d_dict0 : PED X true (.Dict [] [] pos) eDict0 := ⟨fun pins s σ H Q I ⟨B, r, d, ie, en, hf, k⟩ => by
  cases hf
  have hn := I.hok.fresh (Nat.le_refl s.heap.objs.size)
  have dd := Heap.DictOfH.new (knd := nestedKind X.prog X.w) s.heap
  obtain ⟨o, es, ep, h1, h2, h3, h4, _⟩ := dd
  refine wpAny_Dict_empty ⟨.ref s.heap.objs.size, upd H s.heap.objs.size (dOb (kit X) s.heap.objs.size []), I.laid (t' := s.toks) (fun _ _ q => Heap.get?_push_of_some _ q) (Nat.le_refl _) (dOb_ok ⟨o, es, ep, h1, h2, h3, h4⟩), rfl, ?_⟩
  exact k _ B _ (Grow.open ie hn) ⟨_, rfl, hn, ie.back hn, .inr ⟨[], rfl, [], upd_same, beq_eq_false_iff_ne.mpr (Ne.symm (Nat.ne_of_lt I.big)), ⟨List.nodup_nil, .nil, Nat.zero_le _⟩⟩⟩⟩
end
end Sk
/-! SkLay12: dict comprehensions whose keys are tuples -/
namespace Sk
open PySem PySem.Spec PyProof.Rows L2 Evl
section
variable {X : Cx}
/-- what a turn asks: D the new dict -/
def dcTurn (T : Kit) (D : Addr) (Nx : Hp → Prop) (y z : V) (H : Hp) : Prop := PutOk T y z D H Nx
def rDcN (T : Kit) (wi : TI) (g : TG) (tk tv : TE) (vs : List Nat) : TE := fun σ H Q => wi σ H fun J H1 => ∀ D, H1 D = none → (D == sysModules) = false → ∃ W : Nat → Nat → Hp → Prop, (∃ m, W 0 m (upd H1 D (dOb T D []))) ∧ ∀ i m H, W i m H →
  (J.stop i H ∧ Q (.ref D) H) ∨ (J.go i H ∧ ∃ Nx : Hp → Prop, (∀ H', Nx H' → ∃ m', m' < m ∧ W (i + 1) m' H') ∧ ∀ x H', J.yld i H x H' → g x (wipe σ vs) H' fun σ2 H2 => wipe σ2 vs = wipe σ vs ∧
    tk σ2 H2 fun y H4 => tv σ2 H4 fun z H5 => dcTurn T D Nx y z H5)
/-- a comprehension's block that began at s, H within X: its environment ce, what its walk stands on fp -/
structure InBlk (X : Cx) (pins : List (Addr × Obj)) (σ : L2.St) (s : Shared) (H : Hp) (fp : List Addr) (ce : Env) : Prop where
  inv : Inv X pins σ H s
  foot : ∀ a ∈ fp, FpOk X pins H a ∧ a < s.heap.objs.size
  top : ce.locals = s.heap.objs.size
section
variable {pins : List (Addr × Obj)} {σ σ' : L2.St} {s s' : Shared} {H H' : Hp} {fp : List Addr} {ce : Env} {scope : Scope}
/-- the walk's own objects stay out of the block's heap -/
theorem InBlk.feet (J : Inv (X.blk s H scope ce fp) [] σ' H' s') (e : ∀ a ∈ fp, H' a = none) (a : Addr) (ha : a ∈ fp) : FpOk (X.blk s H scope ce fp) [] H' a := by
  have x := J.ok.exf a ha
  exact ⟨e a ha, x.1, J.ok.exfs a ha, Or.inl ha, fun n k q => x.2 n k q, fun p hp => by cases hp⟩
/-- the block is left -/
theorem InBlk.leave (B : InBlk X pins σ s H fp ce) (J : Inv (X.blk s H scope ce fp) [] σ' H' s') : Inv X pins σ H' s' ∧ ∃ m, s'.heap.Ns s.heap.objs.size m ∧ FpOk X pins H' s.heap.objs.size := by
  have out : Inv X pins σ H' s' := B.inv.call' (ch := fp) J.os J.base J.hok J.bare fun a ha => by
    obtain ⟨x0, x1, x2, x3, x4, x5⟩ := (B.foot a ha).1
    exact ⟨x3, x1, x4, x5⟩
  obtain ⟨m, q, _⟩ := J.loc
  have free : H' ce.locals = none := J.free
  have q : s'.heap.Ns ce.locals m := q
  rw [B.top] at free q
  exact ⟨out, m, q, B.inv.fpOk (Nat.le_refl _) free⟩
end
/-- what stands for the loop's turns: i items are taken, W tells the rest -/
def DcAt (X : Cx) (σ : L2.St) (s : Shared) (H : Hp) (scope : Scope) (fp : List Addr) (ce : Env) (vs : List Nat) (tn : Nat → Heap → Prop) (W : Nat → Nat → Hp → Prop) (n : Nat) (s' : Shared) : Prop :=
  ∃ i H', Inv (X.blk s H scope ce fp) [] (wipe σ vs) H' s' ∧ tn i s'.heap ∧ (∀ a ∈ fp, H' a = none) ∧ W i n H'
theorem dcN_core {pins : List (Addr × Obj)} {s : Shared} {σ : L2.St} {H : Hp} {Q : VK} {use : Option (Value → Sem Unit)} {Qf : Value → Shared → Prop} {pos' : Pos} {kx vx tg iter : Expr} {scope : Scope} {own : List (Str × Nat)} {pos : Pos} {wi : TI} {g : TG} {tk tv : TE} (hu : X.A.units + 64 < cLine) (hc : X.calm = true) (hN : X.N.Nodup) (I : Inv X pins σ H s) (hi : PI X tg iter wi) (ok : BlkOk X.N X.env.scope scope own)
    (hg : ∀ (s : Shared) (H : Hp) (C : Addr) (cl : List (Str × Addr)) (fp : List Addr), PG (X.blk s H scope (compEnvC scope cl C X.env) fp) tg g)
    (hk : ∀ (s : Shared) (H : Hp) (C : Addr) (cl : List (Str × Addr)) (fp : List Addr), PE (X.blk s H scope (compEnvC scope cl C X.env) fp) kx tk)
    (he : ∀ (s : Shared) (H : Hp) (C : Addr) (cl : List (Str × Addr)) (fp : List Addr), PE (X.blk s H scope (compEnvC scope cl C X.env) fp) vx tv) (hs : ∀ x, foldedSetIterable iter X.env x = pure x) (h : rDcN (kit X) wi g tk tv (own.map (·.2)) σ H Q)
    (hend : ∀ D C s' m H', Inv X pins σ H' s' → Q (.ref D) H' → s'.heap.Ns C m → FpOk X pins H' C → compPost (model X.prog X.w) X.A X.xe use Qf (.ref D) C (.ok .next) s') :
    wpAny (model X.prog X.w) X.A (comprehension (.DictComp kx vx [⟨tg, iter, [], 0⟩] scope pos) scope X.env pos' newDict false (eval iter X.env) use) Qf X.xe s := by
  have cells : ∀ y ∈ scope.names, y.2 = .free → ∃ k, X.env.cells.lookup y.1 = some k := fun y hy e => (ok.free y hy e).elim (fun q => I.ok.has _ (.inl q)) fun q => I.ok.has _ (.inr q)
  refine wpAny_comprehension_free (use := use) rfl hs (closure_ok cells) ok.kind (fun y hy e => by rw [ok.uniq y hy, e]) (thn (hi.run pins s σ H _ I h) fun _ s1 walked => thn walked fun _ s2 begun => ?_)
  obtain ⟨it, fp, tn, J, H2, rfl, I2, T, t2, f2, rest⟩ := begun
  refine wpAny_newObj_type (newEnv_comp ?_)
  -- the new dict
  obtain ⟨ob, es, ep, o1, o2, o3, o4, _⟩ := Heap.DictOfH.new (knd := nestedKind X.prog X.w) s2.heap
  have kept : ∀ a o, s2.heap.get? a = some o → (s2.heap.push { cls := .type "dict", data := .dict #[] }).get? a = some o := fun a o q => Heap.get?_push_of_some _ q
  have Inew := I2.laid (t' := s2.toks) (a := s2.heap.objs.size) (o := dOb (kit X) s2.heap.objs.size []) kept (Nat.le_refl _) (dOb_ok ⟨ob, es, ep, o1, o2, o3, o4⟩)
  obtain ⟨W, ⟨m0, start⟩, turn⟩ := rest s2.heap.objs.size (I2.hok.fresh (Nat.le_refl _)) (beq_eq_false_iff_ne.mpr (Ne.symm (Nat.ne_of_lt I2.big)))
  have below : ∀ a ∈ fp, a < s2.heap.objs.size := fun a ha => let ⟨_, q, _⟩ := T.obj _ _ t2 a ha; Heap.lt_size q
  have foot : ∀ a ∈ fp, FpOk X pins (upd H2 s2.heap.objs.size (dOb (kit X) s2.heap.objs.size [])) a ∧ a < (s2.heap.push { cls := .type "dict", data := .dict #[] }).objs.size := fun a ha => by
    have q := below a ha
    rw [Heap.size_push]
    exact ⟨⟨(upd_ne (Nat.ne_of_lt q)).trans (f2 a ha).1, (f2 a ha).2⟩, Nat.lt_succ_of_lt q⟩
  have t3 : tn 0 (s2.heap.push { cls := .type "dict", data := .dict #[] }) := T.keep _ _ _ t2 fun a _ o q => kept a o q
  generalize s2.heap.objs.size = D at *
  generalize upd H2 D (dOb (kit X) D []) = H3 at *
  generalize hz : ({ s2 with heap := s2.heap.push { cls := .type "dict", data := .dict #[] } } : Shared) = s3 at *
  have e3 : s2.heap.push { cls := .type "dict", data := .dict #[] } = s3.heap := by rw [← hz]
  rw [e3] at foot t3
  -- the block
  have Iblk := block_start Inew ok hN foot
  generalize cellsFrom (s3.heap.objs.size + 1) scope.names (cloFrom X.env.cells scope.names []) = cl at *
  have rules := And.intro (hg s3 H3 s3.heap.objs.size cl fp) (And.intro (hk s3 H3 s3.heap.objs.size cl fp) (he s3 H3 s3.heap.objs.size cl fp))
  show codeAny _ _ (.compStart (.DictComp kx vx [⟨tg, iter, [], 0⟩] scope pos) 0 (.ref it) (.ref D) (compEnvC scope cl s3.heap.objs.size X.env)) (compPost (model X.prog X.w) X.A X.xe use Qf (.ref D) s3.heap.objs.size) { s3 with heap := pushCells (s3.heap.push { cls := .type "dict", data := .dict #[] }) scope.names }
  have t4 : tn 0 (pushCells (s3.heap.push { cls := .type "dict", data := .dict #[] }) scope.names) := T.keep _ _ _ t3 fun a _ o q => pushCells_keeps _ _ _ _ (Heap.get?_push_of_some _ q)
  have ctop : (compEnvC scope cl s3.heap.objs.size X.env).locals = s3.heap.objs.size := rfl
  generalize compEnvC scope cl s3.heap.objs.size X.env = ce at Iblk rules ctop ⊢
  obtain ⟨pg, pk, pv⟩ := rules
  have B : InBlk X pins σ s3 H3 fp ce := ⟨Inew, foot, ctop⟩
  have turns : codeAny (model X.prog X.w) X.A (.compLoop (.DictComp kx vx [⟨tg, iter, [], 0⟩] scope pos) 0 (.ref it) (.ref D) ce) (compPost (model X.prog X.w) X.A X.xe use Qf (.ref D) s3.heap.objs.size) { s3 with heap := pushCells (s3.heap.push { cls := .type "dict", data := .dict #[] }) scope.names } := by
    refine compLoop_anyD (DcAt X σ s3 H3 scope fp ce (own.map (·.2)) tn W) (fun n s5 ⟨i, H5, J5, t5, e5, w5⟩ => ?_) m0 ⟨0, H3, Iblk, t4, fun a ha => (foot a ha).1.1, start⟩
    rcases turn i n H5 w5 with ⟨stop, fin⟩ | ⟨go, Nx, more, step⟩
    · -- no item is left
      refine thnF (T.done (X.blk s3 H3 scope ce fp) rfl rfl rfl hc i [] s5 _ H5 (fun _ _ => False) J5 (InBlk.feet J5 e5) t5 stop) fun _ s6 ⟨none_, J6⟩ => ?_
      subst none_
      obtain ⟨I7, m, ns, away⟩ := B.leave J6
      exact hend D _ s6 m H5 I7 fin ns away
    · -- an item
      refine thnF (T.item (X.blk s3 H3 scope ce fp) rfl rfl rfl hc i [] s5 _ H5 (fun _ _ => False) J5 (InBlk.feet J5 e5) t5 go) fun _ s6 ⟨u, some_, item⟩ => ?_
      subst some_
      refine thnF item fun _ s7 ⟨x, H7, J7, rel, yl, t7, e7⟩ => ?_
      have P7 := J7.pinned (InBlk.feet J7 e7) (T.obj _ _ t7)
      refine thnF (pg.run _ s7 _ H7 x u _ P7 rel (step x H7 yl)) fun _ s8 ⟨σ8, H8, J8, same, q8⟩ => ?_
      refine thnF ((pts_nil (X := X.blk s3 H3 scope ce fp)).run _ s8 σ8 H8 (fun b H' => b = true ∧ H' = H8) J8 ⟨rfl, rfl⟩) fun _ s9 ⟨_, J9, yes, eH⟩ => ?_
      subst yes eH
      rw [if_pos rfl]
      -- how the turn ends
      have close : ∀ {r : Shared} {G : Hp}, Inv (X.blk s3 H3 scope ce fp) ([] ++ pinsAt fp s7.heap) σ8 G r → Nx G → ∃ m, m < n ∧ DcAt X σ s3 H3 scope fp ce (own.map (·.2)) tn W m r := fun {r G} Jr nx => by
        obtain ⟨m, lt, w⟩ := more G nx
        have at_ : ∀ a ∈ fp, ∀ o, s7.heap.get? a = some o → r.heap.get? a = some o ∧ G a = none := fun a ha o q => by
          have z := Jr.pin (a, o) (by simp [mem_pinsAt ha q])
          exact ⟨z.1, z.2.1⟩
        have len : (wipe σ (own.map (·.2))).length = σ8.length := by rw [← same, wipe_length]
        refine ⟨m, lt, i + 1, G, Inv.weak (Inv.unpinned (pins := []) Jr) len fun j v q => ?_, T.keep _ _ _ t7 fun a ha o q => (at_ a ha o q).1, fun a ha => ?_, w⟩
        · exact (wipe_some (by rw [same]; exact q)).1
        · exact let ⟨o, q, _⟩ := T.obj _ _ t7 a ha; (at_ a ha o q).2
      refine thnF (pk.run _ s9 σ8 _ _ J9 q8) fun _ s10 ⟨y, H10, J10, ry, q10⟩ => thnF (pv.run _ s10 σ8 H10 _ J10 q10) fun _ s11 ⟨z, H11, J11, rz, nx⟩ => ?_
      obtain ⟨xs, k, a, rfl, k1, k2, k3, k4⟩ := put_open (X := X.blk s3 H3 scope ce fp) J11 ry rz nx
      exact wpAny_dictSet_heap (hsz := k3) (show X.A.units + 8 < cLine by omega) k1 k2 fun h' dd same' => let ⟨G, Jr, nx'⟩ := k4 _ _ dd same'; close Jr nx'
  exact codeAny_compStart_dict turns (T.self X.A 0 _ _ _ t4 turns)
theorem pe_dcN {kx vx tg iter : Expr} {scope : Scope} {own : List (Str × Nat)} {pos : Pos} {wi : TI} {g : TG} {tk tv : TE} (hu : X.A.units + 64 < cLine) (hc : X.calm = true) (hN : X.N.Nodup) (hi : PI X tg iter wi) (ok : BlkOk X.N X.env.scope scope own)
    (hg : ∀ (s : Shared) (H : Hp) (C : Addr) (cl : List (Str × Addr)) (fp : List Addr), PG (X.blk s H scope (compEnvC scope cl C X.env) fp) tg g)
    (hk : ∀ (s : Shared) (H : Hp) (C : Addr) (cl : List (Str × Addr)) (fp : List Addr), PE (X.blk s H scope (compEnvC scope cl C X.env) fp) kx tk)
    (he : ∀ (s : Shared) (H : Hp) (C : Addr) (cl : List (Str × Addr)) (fp : List Addr), PE (X.blk s H scope (compEnvC scope cl C X.env) fp) vx tv) (hs : ∀ x, foldedSetIterable iter X.env x = pure x := by intro _; rfl) :
    PE X (.DictComp kx vx [⟨tg, iter, [], 0⟩] scope pos) (rDcN (kit X) wi g tk tv (own.map (·.2))) where
  run := fun pins s σ H Q I h => by
    rw [arm_eval_DictComp]
    exact dcN_core hu hc hN I hi ok hg hk he hs h fun D C r m G J q ns ⟨x0, x1, x2, x3, x4, x5⟩ => ⟨m, ns, fun _ sb => ⟨.ref D, G, J.turned (t' := r.toks) (fun a o ne e => (sb.2 a ne).trans e) x0 x1 x3 x4 x5, rfl, q⟩⟩
/-- y = {..} on one line, y a local -/
theorem ps_setDcN {i : Nat} {y : Str} {py : Pos} {kx vx tg iter : Expr} {scope : Scope} {own : List (Str × Nat)} {pos spos : Pos} {wi : TI} {g : TG} {tk tv : TE} (hu : X.A.units + 64 < cLine) (hc : X.calm = true) (hN : X.N.Nodup) (hy : X.N[i]? = some y) (hyl : X.env.scope.names.lookup y = some .local)
    (hsw : swapsWith (.DictComp kx vx [⟨tg, iter, [], 0⟩] scope pos) (some (.Name y py)) spos.line X.env = pure true) (hi : PI X tg iter wi) (ok : BlkOk X.N X.env.scope scope own)
    (hg : ∀ (s : Shared) (H : Hp) (C : Addr) (cl : List (Str × Addr)) (fp : List Addr), PG (X.blk s H scope (compEnvC scope cl C X.env) fp) tg g)
    (hk : ∀ (s : Shared) (H : Hp) (C : Addr) (cl : List (Str × Addr)) (fp : List Addr), PE (X.blk s H scope (compEnvC scope cl C X.env) fp) kx tk)
    (he : ∀ (s : Shared) (H : Hp) (C : Addr) (cl : List (Str × Addr)) (fp : List Addr), PE (X.blk s H scope (compEnvC scope cl C X.env) fp) vx tv) (hs : ∀ x, foldedSetIterable iter X.env x = pure x := by intro _; rfl) :
    PS X (.Assign [.Name y py] (.DictComp kx vx [⟨tg, iter, [], 0⟩] scope pos) spos) (tAsg (rDcN (kit X) wi g tk tv (own.map (·.2))) (gName i)) where
  run := fun pins s σ H Dn I h => by
    rw [exec_Assign_Name_used _ _ _ _ hsw]
    have stored := dcN_core (pos := pos) (pos' := firstIterPos [⟨tg, iter, [], 0⟩] pos) (use := some (assign (.Name y py) X.env)) (Q := fun x H1 => gName i x σ H1 Dn.nx) (Qf := fun _ r => SP X pins Dn .next r) hu hc hN I hi ok hg hk he hs h fun D C r m G J q ns ⟨x0, x1, x2, x3, x4, x5⟩ =>
      wpAny_assign_Name (store_ok2 (v := V.ref D) J hN hy (Or.inl hyl) rfl (fun r2 J2 ⟨a, sb, ha⟩ => by
        have apart : C ≠ a := ha.elim (fun z => z ▸ x1) fun z q => x4 y a z q.symm
        exact ⟨m, ns.sameBut sb apart, fun _ sb3 => ⟨_, G, J2.turned (t' := r2.toks) (fun b o ne e => (sb3.2 b ne).trans e) x0 x1 x3 x4 x5, q⟩⟩) (Or.inr hyl))
    exact wpAny_bind (wpAny_standAt (wpAny_bind (wpAny_bind (thn stored fun _ _ z => wpAny_pure (wpAny_pure z)))))
theorem sw_trueD {kx vx : Expr} {gs : List Comprehension} {scope : Scope} {pos py : Pos} {y : Str} {l : Nat} {env : Env} (kind : env.scope.kind = .function) (loc : env.scope.names.lookup y = some .local) (line : (py.line == pos.line) = true)
    (other : (scope.names.any fun (n, k) => n == y && (k == .local || k == .cell)) = false) : swapsWith (.DictComp kx vx gs scope pos) (some (.Name y py)) l env = pure true := by
  have x1 : env.blockKind = .function := by unfold Env.blockKind; rw [kind]; rfl
  have x2 : env.kindOf y = some .local := loc
  unfold swapsWith
  simp only [x1, x2, other, line, Expr.pos]
  rfl
/-- the dict so far -/
structure DcInv (T : Kit) (tg : Tg) (kx vx : FE) (r : Rho) (xs : List D) (res : Kvs) (B1 H1 : Hp) (D : Addr) (i : Nat) (H : Hp) : Prop where
  ex : ∃ B2 m es, Grow B1 H1 B2 H ∧ B2 D = none ∧ H D = some (dOb T D es) ∧ Ents T B2 m es ∧ m.length ≤ i ∧ dcGo tg kx vx r m (xs.drop i) = some res
theorem kPut_len (m : Kvs) (k v : D) : (kPut m k v).length ≤ m.length + 1 := by
  unfold kPut
  split
  · rw [List.length_map]; omega
  · rw [List.length_append]; exact Nat.le_refl _
theorem dc_env {T : Kit} {src : FI} {tg : Tg} {kx vx : FE} {σ : L2.St} {H B : Hp} {r : Rho} {d : D} {Q : VK} (ie : Ex B H) (en : EnvI T σ B r) (hf : eDc src tg kx vx r = some d)
    (k : ∀ v B' H', Grow B H B' H' → Fresh T H B' H' v d → Q v H') : rDcN T (rdI T src) (rdG T tg) (rdE T false kx) (rdE T false vx) tg.ix σ H Q := by
  obtain ⟨xs, h1, h2⟩ := bind1 hf
  split at h2
  · rename_i hlen
    obtain ⟨res, h3, rfl⟩ := map1 h2
    refine ⟨B, r, xs, ie, en, h1, fun J B1 H1 g1 W1 p np hsm => ?_⟩
    refine ⟨fun i m H => m = xs.length - i ∧ i ≤ xs.length ∧ DcInv T tg kx vx r xs res B1 H1 p i H, ⟨xs.length, rfl, Nat.zero_le _, ⟨B1, [], [], Grow.open g1.i np, g1.i.back np, upd_same, ⟨List.nodup_nil, .nil, Nat.zero_le _⟩, Nat.le_refl _, h3⟩⟩, ?_⟩
    rintro i m H2 ⟨rfl, hi, ⟨B2, ms, es, g2, nB, hp, ha, hl, hgo⟩⟩
    obtain ⟨w1, w2⟩ := W1 H2 (g2.b.trans g2.i)
    by_cases hlt : i < xs.length
    · have hx : xs[i]? = some xs[i] := List.getElem?_eq_getElem hlt
      have hd : xs.drop i = xs[i] :: xs.drop (i + 1) := List.drop_eq_getElem_cons hlt
      rw [hd, dcGo] at hgo
      obtain ⟨r', h4, h5⟩ := bind1 hgo
      obtain ⟨dk, h6, h7⟩ := bind1 h5
      obtain ⟨dv, h8, h9⟩ := bind1 h7
      split at h9
      · rename_i hkf
        rw [Bool.and_eq_true] at hkf
        obtain ⟨w3, w4⟩ := w2 i _ hx
        have en2 : EnvI T σ B2 r := (en.mono g1.b).mono g2.b
        refine .inr ⟨w3, fun H' => DcInv T tg kx vx r xs res B1 H1 p (i + 1) H', fun H' q => ⟨xs.length - (i + 1), by omega, rfl, hlt, q⟩, fun v H' hy => ?_⟩
        obtain ⟨rfl, hv⟩ := w4 v H' hy
        refine tg_env g2.i en2 (hv.mono g2.b) h4 fun σ' en' hw => ⟨hw, B2, r', dk, g2.i, en', h6, fun y B3 H3 g3 q3 => ⟨B3, r', dv, g3.i, en'.mono g3.b, h8, fun z B4 H4 g4 q4 => ?_⟩⟩
        obtain ⟨nB3, hp3⟩ := g3.keeps nB hp
        obtain ⟨nB4, hp4⟩ := g4.keeps nB3 hp3
        have gg := g2.trans (g3.trans g4)
        refine ⟨B4, ms, es, dk, dv, g4.i, hp4, ha.mono (g3.trans g4).b, Rp.mono g4.b q3, hkf.1, hkf.2, q4, by omega, fun es' en4 => ?_⟩
        exact ⟨B4, _, es', gg.put np nB4, nB4, upd_same, en4, Nat.le_trans (kPut_len ms dk dv) (Nat.succ_le_succ hl), h9⟩
      · cases h9
    · have e : i = xs.length := by omega
      subst e
      rw [List.drop_length, dcGo] at hgo
      cases hgo
      exact .inl ⟨w1, k _ B2 H2 (g1.trans g2) ⟨p, rfl, g1.h.back np, nB, .inr ⟨_, rfl, es, hp, hsm, ha⟩⟩⟩
  · cases h2
/-- {k: v for tg in iter}, open to change -/
theorem d_dc {kx vx tg iter : Expr} {scope : Scope} {own : List (Str × Nat)} {pos : Pos} {src : FI} {tgd : Tg} {fk fv : FE} (hu : X.A.units + 64 < cLine) (hc : X.calm = true) (hN : X.N.Nodup) (hi : PID X tg iter src) (ok : BlkOk X.N X.env.scope scope own) (hix : own.map (·.2) = tgd.ix)
    (hg : ∀ (s : Shared) (H : Hp) (C : Addr) (cl : List (Str × Addr)) (fp : List Addr), PGD (X.blk s H scope (compEnvC scope cl C X.env) fp) tg tgd)
    (hk : ∀ (s : Shared) (H : Hp) (C : Addr) (cl : List (Str × Addr)) (fp : List Addr), PED (X.blk s H scope (compEnvC scope cl C X.env) fp) false kx fk)
    (he : ∀ (s : Shared) (H : Hp) (C : Addr) (cl : List (Str × Addr)) (fp : List Addr), PED (X.blk s H scope (compEnvC scope cl C X.env) fp) false vx fv)
    (hs : ∀ x, foldedSetIterable iter X.env x = pure x := by intro _; rfl) : PED X true (.DictComp kx vx [⟨tg, iter, [], 0⟩] scope pos) (eDc src tgd fk fv) :=
  pe_imp (pe_dcN hu hc hN hi ok hg hk he hs) fun σ H Q ⟨B, r, d, ie, en, hf, k⟩ => by
    rw [hix]
    exact dc_env (T := kit X) ie en hf k
/-- y = {k: v for ..}, open to change -/
theorem s_newDc {fr : Bool} {i : Nat} {y : Str} {py : Pos} {kx vx tg iter : Expr} {scope : Scope} {own : List (Str × Nat)} {pos spos : Pos} {src : FI} {tgd : Tg} {fk fv : FE} (hu : X.A.units + 64 < cLine) (hc : X.calm = true) (hN : X.N.Nodup) (hy : X.N[i]? = some y) (hyl : X.env.scope.names.lookup y = some .local)
    (hsw : swapsWith (.DictComp kx vx [⟨tg, iter, [], 0⟩] scope pos) (some (.Name y py)) spos.line X.env = pure true) (hi : PID X tg iter src) (ok : BlkOk X.N X.env.scope scope own) (hix : own.map (·.2) = tgd.ix)
    (hg : ∀ (s : Shared) (H : Hp) (C : Addr) (cl : List (Str × Addr)) (fp : List Addr), PGD (X.blk s H scope (compEnvC scope cl C X.env) fp) tg tgd)
    (hk : ∀ (s : Shared) (H : Hp) (C : Addr) (cl : List (Str × Addr)) (fp : List Addr), PED (X.blk s H scope (compEnvC scope cl C X.env) fp) false kx fk)
    (he : ∀ (s : Shared) (H : Hp) (C : Addr) (cl : List (Str × Addr)) (fp : List Addr), PED (X.blk s H scope (compEnvC scope cl C X.env) fp) false vx fv)
    (hs : ∀ x, foldedSetIterable iter X.env x = pure x := by intro _; rfl) : PSD X fr (.Assign [.Name y py] (.DictComp kx vx [⟨tg, iter, [], 0⟩] scope pos) spos) (sNew i (eDc src tgd fk fv)) :=
  ps_imp (ps_setDcN hu hc hN hy hyl hsw hi ok hg hk he hs) fun Dn σ H h => by
    obtain ⟨B, r, d, ie, en, hf, k⟩ := new_core (T := kit X) h
    rw [hix]
    exact dc_env (T := kit X) ie en hf k
/-! ### of all that is held -/
theorem rd_tup {B C : Hp} (h : ∀ a o, B a = some o → C a = some o ∨ (∃ xs, o = .lst xs) ∨ ∃ f, o = .ext f) {a : Addr} {xs : List V} (r : Rd B a (.tup xs)) : Rd C a (.tup xs) := by
  rcases r with r | ⟨o, r⟩
  · rcases h a _ r with q | ⟨ys, q⟩ | ⟨f, q⟩
    · exact .inl q
    · cases q
    · cases q
  · rcases h a _ r with q | ⟨ys, q⟩ | ⟨f, q⟩
    · exact .inr ⟨o, q⟩
    · cases q
    · cases q
theorem dpAll_less {K : PySem.W.Frag} {B C : Hp} {n : Nat} (ih : ∀ (d : D) (v : V), keyish n d = true → Dp K B v d → Dp K C v d) : ∀ (ds : List D) (vs : List V), ds.all (keyish n) = true → DpAll K B vs ds → DpAll K C vs ds
  | [], _, _, h => by cases h; exact .nil
  | d :: ds, _, hk, h => by
    rw [List.all_cons, Bool.and_eq_true] at hk
    cases h with
    | cons h1 h2 => exact .cons (ih d _ hk.1 h1) (dpAll_less ih ds _ hk.2 h2)
theorem dp_less {K : PySem.W.Frag} {B C : Hp} (h : ∀ a o, B a = some o → C a = some o ∨ (∃ xs, o = .lst xs) ∨ ∃ f, o = .ext f) : ∀ (n : Nat) (d : D) (v : V), keyish n d = true → Dp K B v d → Dp K C v d
  | n, .int i, _, _, q => by cases q; exact .int i
  | 0, .tuple a, _, hk, _ => by simp [keyish] at hk
  | n + 1, .tuple a, _, hk, q => by
    cases q with
    | tup h1 h2 =>
      refine .tup ?_ (dpAll_less (dp_less h n) a _ (by simpa [keyish] using hk) h2)
      rcases h1 with h1 | h1
      · exact .inl (rd_tup h h1)
      · exact .inr h1
  | n, .none, _, hk, _ => by cases n <;> simp [keyish] at hk
  | n, .bool _, _, hk, _ => by cases n <;> simp [keyish] at hk
  | n, .str _, _, hk, _ => by cases n <;> simp [keyish] at hk
  | n, .list _, _, hk, _ => by cases n <;> simp [keyish] at hk
  | n, .dict _, _, hk, _ => by cases n <;> simp [keyish] at hk
theorem Ents.less {T : Kit} {B C : Hp} {m : Kvs} {xs : List Ent} (h : ∀ a o, B a = some o → C a = some o ∨ (∃ xs, o = .lst xs) ∨ ∃ f, o = .ext f) (e : Ents T B m xs) : Ents T C m xs :=
  ⟨e.nd, Paired.mapP e.each fun p x ⟨⟨h1, h2, h3⟩, h4, v, h5, h6⟩ => ⟨⟨h1, h2, dp_less h 8 _ _ (keyish_of h2) h3⟩, h4, v, h5, h6.flat h4⟩, e.sz⟩
open Classical in
/-- y = {k: v for ..}, of all that is held, open to change -/
theorem s_newDcA {fr : Bool} {i : Nat} {y : Str} {py : Pos} {kx vx tg iter : Expr} {scope : Scope} {own : List (Str × Nat)} {pos spos : Pos} {src : FI} {tgd : Tg} {fk fv : FE} (hu : X.A.units + 64 < cLine) (hc : X.calm = true) (hN : X.N.Nodup) (hy : X.N[i]? = some y) (hyl : X.env.scope.names.lookup y = some .local)
    (hsw : swapsWith (.DictComp kx vx [⟨tg, iter, [], 0⟩] scope pos) (some (.Name y py)) spos.line X.env = pure true) (hi : PID X tg iter src) (ok : BlkOk X.N X.env.scope scope own) (hix : own.map (·.2) = tgd.ix)
    (hg : ∀ (s : Shared) (H : Hp) (C : Addr) (cl : List (Str × Addr)) (fp : List Addr), PGD (X.blk s H scope (compEnvC scope cl C X.env) fp) tg tgd)
    (hk : ∀ (s : Shared) (H : Hp) (C : Addr) (cl : List (Str × Addr)) (fp : List Addr), PED (X.blk s H scope (compEnvC scope cl C X.env) fp) false kx fk)
    (he : ∀ (s : Shared) (H : Hp) (C : Addr) (cl : List (Str × Addr)) (fp : List Addr), PED (X.blk s H scope (compEnvC scope cl C X.env) fp) false vx fv)
    (hs : ∀ x, foldedSetIterable iter X.env x = pure x := by intro _; rfl) : PSD X fr (.Assign [.Name y py] (.DictComp kx vx [⟨tg, iter, [], 0⟩] scope pos) spos) (sNewD i (eDc src tgd fk fv)) :=
  ps_imp (ps_setDcN hu hc hN hy hyl hsw hi ok hg hk he hs) fun Dn σ H ⟨B0, H0, B, g, o, h, hf, k⟩ => by
    obtain ⟨d, e1, e2⟩ := bind1 hf
    split at e2
    · rename_i m
      cases e2
      rw [hix]
      obtain ⟨x1, x2, x3⟩ := h.full
      refine dc_env (T := kit X) x2.i x3 e1 fun v B' H' gr ⟨p, hv, q1, q2, q3⟩ => ?_
      subst hv
      -- what is held and open is left out
      have cut : ∀ a o, B' a = some o → (fun a => if ∃ (i : Nat) (d : D), g[i]? = some (.mu d) ∧ σ[i]? = some (some (.ref a)) then none else B' a) a = some o ∨ (∃ xs, o = HO.lst xs) ∨ ∃ f, o = HO.ext f := fun a o e => by
        by_cases c : ∃ (i : Nat) (d : D), g[i]? = some (.mu d) ∧ σ[i]? = some (some (.ref a))
        · obtain ⟨i', d', c1, c2⟩ := c
          obtain ⟨p', a1, a2, a3, a4⟩ := h.mu i' d' c1
          rw [c2] at a1
          cases a1
          have eo : H a = some o := by
            obtain ⟨u, hu'⟩ := a4.ex
            have := gr.h a u hu'
            rw [gr.i a o e] at this
            cases this
            exact hu'
          rcases a4 with ⟨ds, xs, _, z, _⟩ | ⟨m', _, xs, z, _⟩
          · rw [eo] at z
            cases z
            exact .inr (.inl ⟨_, rfl⟩)
          · rw [eo] at z
            cases z
            exact .inr (.inr ⟨_, rfl⟩)
        · exact .inl ((if_neg c).trans e)
      have G : Grow B H (fun a => if ∃ (i : Nat) (d : D), g[i]? = some (.mu d) ∧ σ[i]? = some (some (.ref a)) then none else B' a) H' := by
        refine ⟨fun a o e => ?_, fun a o e => ?_, gr.h, fun a n1 n2 => ?_⟩
        · by_cases c : ∃ (i : Nat) (d : D), g[i]? = some (.mu d) ∧ σ[i]? = some (some (.ref a))
          · obtain ⟨i', d', c1, c2⟩ := c
            obtain ⟨p', a1, a2, a3, a4⟩ := h.mu i' d' c1
            rw [c2] at a1
            cases a1
            rw [e] at a3; cases a3
          · rw [if_neg c]
            exact gr.b a o (x1 a o e)
        · split at e
          · cases e
          · exact gr.i a o e
        · by_cases c : ∃ (i : Nat) (d : D), g[i]? = some (.mu d) ∧ σ[i]? = some (some (.ref a))
          · rw [if_pos c] at n2
            exact absurd rfl n2
          · rw [if_neg c] at n2
            refine gr.n a ?_ n2
            unfold full
            rw [if_neg c]
            exact n1
      have h' := h.grow G
      refine k _ _ H' G.b (h'.set_mu (p := p) (h.gr.h.back q1) ?_ ?_ fun j e hj he hz => ?_)
      · split
        · rfl
        · exact q2
      · rcases q3 with ⟨ds, xs, z1, _⟩ | ⟨m', z1, xs, z2, z3, z4⟩
        · cases z1
        · cases z1
          exact .inr ⟨_, rfl, xs, z2, z3, z4.less cut⟩
      · obtain ⟨p', a1, a2, a3, a4⟩ := h.mu j e he
        rw [hz] at a1
        cases a1
        obtain ⟨u, hu'⟩ := a4.ex
        rw [q1] at hu'
        cases hu'
    · cases e2
end
end Sk
/-! SkLay13: dict(list of pairs) -/
namespace Sk
open PySem PySem.Spec PyProof.Rows L2 Evl
section
variable {X : Cx} {pins : List (Addr × Obj)} {σ : L2.St} {H B : Hp} {s : Shared}
/-- the pairs of a list, one by one -/
theorem dp_two {K : PySem.W.Frag} {B : Hp} {xs : List V} {d e : D} (h : DpAll K B xs [d, e]) : ∃ x y, xs = [x, y] ∧ Dp K B x d ∧ Dp K B y e := by
  cases h with
  | cons h1 t =>
    cases t with
    | cons h2 t => cases t; exact ⟨_, _, rfl, h1, h2⟩
/-- the pairs of a list -/
theorem pairs_of (I : Inv X pins σ H s) (ie : Ex B H) : ∀ (ds : List D) (vs : List V) (its : List Value) (m0 m : Kvs) (xs0 : List Ent), DpAll X.K B vs ds → Vals vs its → kPuts m0 ds = some m → Ents (kit X) B m0 xs0 → xs0.length + ds.length ≤ sizeLine →
    ∃ ps : List Ent, ps.length = its.length ∧ Ents (kit X) B m (storedAllH xs0 ps) ∧ ∀ (j : Nat) (k : NestedKey) (b : Addr) (v : Value), ps[j]? = some (k, b, v) → (∃ t, its[j]? = some (.ref t) ∧ s.heap.IsTuple t #[.ref b, v]) ∧ (nestedKind X.prog X.w).is s.heap k b
  | [], _, _, m0, m, xs0, h, r, e, en, hz => by
    cases h
    cases r
    rw [kPuts] at e
    cases e
    exact ⟨[], rfl, en, fun j k b v q => by simp at q⟩
  | d :: ds, _, _, m0, m, xs0, h, r, e, en, hz => by
    have hl : m0.length = xs0.length := Paired.length en.each
    cases h with
    | cons h1 h2 =>
      cases r with
      | cons r1 r2 =>
        rename_i v0 u0
        unfold kPuts at e
        split at e
        · cases ‹_ = []›
        · rename_i dk dv r' hcons
          cases hcons
          split at e
          · rename_i hkf
            rw [Bool.and_eq_true] at hkf
            cases h1 with
            | tup q1 q2 =>
              cases r1
              obtain ⟨its', rv', ht, _⟩ := I.tuple (ex_t ie q1)
              obtain ⟨x1, x2, rfl, k1, k3⟩ := dp_two q2
              obtain ⟨u1, u2, rfl, w1, w3⟩ := vals2 rv'
              obtain ⟨k, a1, a2, a3⟩ := nest I 8 _ _ _ (keyish_of hkf.1) (k1.mono ie) w1
              subst a1
              have ev : ∃ b, u1 = .ref b ∧ x1 = .ref b := by
                cases k with
                | tup ks => cases a2; cases k1; cases w1; exact ⟨_, rfl, rfl⟩
                | _ => cases hkf.1
              obtain ⟨b, e1, e2⟩ := ev
              subst e1 e2
              have hL := lim_eq
              rw [List.length_cons] at hz
              have en' := ents_put (u := u2) en hkf.1 k1 hkf.2 w3 k3 (by omega)
              have hsl := storedH_length xs0 k b u2
              obtain ⟨ps, p1, p2, p3⟩ := pairs_of I ie ds _ _ _ m _ h2 r2 e en' (by omega)
              refine ⟨(k, b, u2) :: ps, by rw [List.length_cons, List.length_cons, p1], p2, fun j k' b' v' q => ?_⟩
              cases j with
              | zero =>
                simp only [List.getElem?_cons_zero, Option.some.injEq, Prod.mk.injEq] at q
                obtain ⟨rfl, rfl, rfl⟩ := q
                exact ⟨⟨_, rfl, ht⟩, a2, a3⟩
              | succ j =>
                rw [List.getElem?_cons_succ] at q
                obtain ⟨z1, z2⟩ := p3 j k' b' v' q
                exact ⟨by simpa using z1, z2⟩
          · cases e
        · cases e
def rDictN (T : Kit) : List V → Hp → VK → Prop := fun vs H Q => ∃ B v ds m, vs = [v] ∧ Ex B H ∧ Rp T B v (.list ds) ∧ kPuts [] ds = some m ∧ ∀ p xs, H p = none → (p == sysModules) = false → Ents T B m xs → Q (.ref p) (upd H p (dOb T p xs))
theorem cr_dictN (hc : X.calm = true) (hu : X.A.units + 64 < cLine) : CallR X (.type "dict") (rDictN (kit X)) := by
  intro pins s σ H vs us Q I r ⟨B, v, ds, m, e, ie, hv, hm, q⟩
  subst e
  obtain ⟨u, rfl, rx⟩ := vals1 r
  obtain ⟨a, ys, rfl, h1, h2⟩ := rp_list hv
  cases rx
  obtain ⟨its, rv, hl, hz⟩ := I.list (ex_l ie h1)
  have hlen := h2.len
  obtain ⟨ps, p1, p2, p3⟩ := pairs_of I ie ds ys its [] m [] h2 rv hm ⟨List.nodup_nil, .nil, Nat.zero_le _⟩ (by rw [← hlen]; simpa using hz)
  have hil : its.length = ys.length := rv.length.symm
  have P := PairArg.list (prog := X.prog) (w := X.w) a its.toArray (fun j => match its[j]? with | some (.ref t) => t | _ => 0) (ps.map fun x => (Value.ref x.2.1, x.2.2))
  have key : ∀ x ∈ ps, (nestedKind X.prog X.w).is s.heap x.1 x.2.1 := fun x hx => by
    obtain ⟨j, hj⟩ := List.mem_iff_getElem?.mp hx
    exact (p3 j x.1 x.2.1 x.2.2 hj).2
  refine call_dict_pairsH (knd := nestedKind X.prog X.w) (ps := ps) P (I.ok.hd hc) (show X.A.units + 1 + 1 + 8 < cLine by omega) ⟨hl, ?_, fun j k v hj => ?_⟩ ⟨by rw [List.length_map], fun i key v hr => ?_⟩ (fun h' hk x hx => nestedKind_stays.stays (fun b o _ _ e _ => hk b o (Nat.ne_of_lt (Heap.lt_size e)) (fun z => nomatch z) e) (key x hx)) (by rw [List.length_map, p1, hil]; exact hz) fun h' tk dd hk => ?_
  · rw [List.size_toArray, List.length_map, p1]
  · rw [List.getElem?_map] at hj
    obtain ⟨x, hx, he⟩ := map1 hj
    cases he
    obtain ⟨⟨t, ht, hT⟩, _⟩ := p3 j x.1 x.2.1 x.2.2 hx
    refine ⟨?_, ?_⟩
    · rw [List.getElem?_toArray]
      dsimp only
      rw [ht]
    · dsimp only
      rw [ht]
      exact .inl hT
  · have hr : (ps.map fun x => (Value.ref x.2.1, x.2.2))[i]? = some (key, v) := hr
    rw [List.getElem?_map] at hr
    obtain ⟨x, hx, he⟩ := map1 hr
    cases he
    exact ⟨x.1, x.2.1, hx, rfl⟩
  · have hn : H s.heap.objs.size = none := I.hok.fresh (Nat.le_refl _)
    obtain ⟨o, es, ep, e1, e2, e3, e4, _⟩ := dd
    exact ⟨.ref _, upd H s.heap.objs.size (dOb (kit X) s.heap.objs.size (storedAllH [] ps)), I.laid (t' := tk) (fun b u e => hk b u (fun z => nomatch z) e) (Nat.le_refl _) (dOb_ok ⟨o, es, ep, e1, e2, e3, e4⟩), rfl, q _ _ hn (beq_eq_false_iff_ne.mpr (Ne.symm (Nat.ne_of_lt I.big))) p2⟩
theorem ld_dictN {T : Kit} : ClD T (rDictN T) fDict := by
  intro B H vs ds d Q ie hv e k
  unfold fDict at e
  split at e
  · obtain ⟨m, e1, rfl⟩ := map1 e
    obtain ⟨v, rfl, h⟩ := rps1 hv
    refine ⟨B, v, _, m, rfl, ie, h, e1, fun p xs np hs en => ?_⟩
    exact k _ (upd B p (dOb T p xs)) _ (Grow.new ie np) (.inr ⟨m, p, rfl, rfl, xs, upd_same, hs, en.mono (Ex.up (ie.back np))⟩)
  · cases e
end
end Sk
/-! SkLay14: sorted(d), sorted(d.items()) -/
namespace Sk
open PySem PySem.Spec PyProof.Rows L2 Evl PySem.W PySem.Calls
mutual
theorem reads_lt {h : Heap} : ∀ {v : Value} {d : D} {as : List Addr}, Reads h v d as → ∀ a ∈ as, a < h.objs.size
  | _, _, _, .none => fun _ q => nomatch q
  | _, _, _, .bool _ => fun _ q => nomatch q
  | _, _, _, .int _ _ => fun _ q => nomatch q
  | _, _, _, .str _ _ => fun _ q => nomatch q
  | _, _, _, .list h1 _ _ h4 => fun a q => by
    rcases List.mem_cons.mp q with rfl | q
    · exact Heap.lt_size h1
    · exact readsAll_lt h4 a q
  | _, _, _, .tuple _ _ _ h4 => readsAll_lt h4
  | _, _, _, .dict h1 _ _ h4 h5 => fun a q => by
    rcases List.mem_cons.mp q with rfl | q
    · exact Heap.lt_size h1
    · rcases List.mem_append.mp q with q | q
      · exact readsAll_lt h4 a q
      · exact readsAll_lt h5 a q
theorem readsAll_lt {h : Heap} : ∀ {vs : List Value} {ds : List D} {as : List Addr}, ReadsAll h vs ds as → ∀ a ∈ as, a < h.objs.size
  | _, _, _, .nil => fun _ q => nomatch q
  | _, _, _, .cons h1 h2 => fun a q => by
    rcases List.mem_append.mp q with q | q
    · exact reads_lt h1 a q
    · exact readsAll_lt h2 a q
end
section
variable {prog : Program} {w : World} {A : Around} {E : Value → Shared → Prop} {s : Shared} {d : Addr} {es : Array DictEntry} {ep : Nat}
/-- the sort of a list just laid -/
theorem sort_new {h' : Heap} {tk : Nat} {vs : List Value} {ds : List D} {R : Value → D → Prop} {Q : Value → Shared → Prop} (e : EachIs R vs ds) (er : EachIs (fun v b => ∃ as, Reads h' v b as) vs ds) (hal : AllAlike ds) (hk : Sortable ds) (hL : ds.length ≤ sizeLine) (hu : ∀ b, b ∈ ds → A.units + 1 + b.depth < cLine)
    (h : ∀ (out : List Value) (h'' : Heap), out.length = ds.length → EachIs R out (srt ds) → (∀ b o, h'.get? b = some o → h''.get? b = some o) → (∃ n, h''.get? h'.objs.size = some (seqObj "list" out.toArray n)) → Q (.ref h'.objs.size) { s with heap := h'', toks := tk }) :
    wpAny (model prog w) A (call (.builtin "list.sort") [.ref h'.objs.size]) (fun _ s' => Q (.ref h'.objs.size) s') E { s with heap := h'.push { cls := .type "list", data := .seq vs.toArray }, toks := tk } := by
  have hob : (h'.push { cls := .type "list", data := .seq vs.toArray }).get? h'.objs.size = some (seqObj "list" vs.toArray 0) := Heap.get?_push_size _ rfl
  have ka : ∀ b o, h'.get? b = some o → (h'.push { cls := .type "list", data := .seq vs.toArray }).get? b = some o := fun b o e => Heap.get?_push_of_some _ e
  generalize hh2 : h'.push { cls := .type "list", data := .seq vs.toArray } = h2 at hob ka ⊢
  refine list_sort_data (s := { s with heap := h2, toks := tk }) (enc := id) (bs := ds) hob e (er.mono fun v b ⟨as, r⟩ => ⟨as, PyProof.Rows.Reads.keeps ka r, fun hm => Nat.lt_irrefl _ (reads_lt r _ hm)⟩) (by rw [List.map_id]; exact hal) (by rw [List.map_id]; exact hk) hL hu fun out ho he => ?_
  obtain ⟨eF, heF⟩ := PyProof.Rows.sortedHeap_at (vs := vs) (out := out.toArray) hob
  refine h out _ ho he (fun b o e => ?_) ⟨eF, heF⟩
  have hb : b ≠ h'.objs.size := Nat.ne_of_lt (Heap.lt_size e)
  exact (PyProof.Rows.sortedHeap_old hb (Heap.lt_size (ka b o e))).trans (ka b o e)
/-- sorted(d) up to the sort of the keys -/
theorem sortedK {Q : Value → Shared → Prop} (hh : A.handled = none) (hd : (d == sysModules) = false) (hm : s.heap.DictRaw d es ep) (hn : es.size ≤ sizeLine)
    (h : ∀ (h' : Heap) (tk : Nat), (∀ b o, s.heap.get? b = some o → h'.get? b = some o) →
      wpAny (model prog w) A.in1 (call (.builtin "list.sort") [.ref h'.objs.size]) (fun _ s' => Q (.ref h'.objs.size) s') E { s with heap := h'.push { cls := .type "list", data := .seq (es.toList.map (·.key)).toArray }, toks := tk }) :
    wpAny (model prog w) A (call (.builtin "sorted") [.ref d]) Q E s := by
  refine call_function_entry kind_sorted plain_sorted entry_sorted (args_sorted1 _) ?_
  unfold Builtin.«sorted»
  refine wpAny_bind (m := checkCount "sorted" 1 1 _) (wpAny_pure ?_)
  refine wpAny_bind (PySem.W.kdu_collect (A := A.in1) (KdlSrc.rawDict hd) hh hm hn fun h' tk acc hk hi => ?_)
  have e : acc.toList = es.toList.map (·.key) := by
    obtain ⟨h1, h2⟩ := hi
    apply List.ext_getElem
    · rw [List.length_map, Array.length_toList, Array.length_toList, h1]
    · intro j j1 j2
      rw [Array.length_toList] at j1
      obtain ⟨hj, hv⟩ := h2 j acc[j] (Array.getElem?_eq_getElem j1)
      rw [Array.getElem_toList, hv, List.getElem_map, Array.getElem_toList]
  rw [e]
  refine wpAny_bind (wpAny_newList ?_ (by rw [List.length_map, Array.length_toList]; exact hn))
  have hg := h h' tk hk
  refine wpAny_bind (wpAny_holding (wpAny_mono hg (fun _ s' x => ?_) fun _ _ e => e))
  exact wpAny_pure ⟨_, rfl, x⟩
end
section
variable {X : Cx} {pins : List (Addr × Obj)} {σ : L2.St} {H B : Hp} {s : Shared}
theorem keys_each (I : Inv X pins σ H s) (ie : Ex B H) : ∀ {m : Kvs} {xs : List Ent}, Paired (fun (p : D × D) (x : Ent) => (p.1 = x.1.data ∧ isKey p.1 = true ∧ Dp X.K B (.ref x.2.1) p.1) ∧ flat p.2 = true ∧ ∃ v, RelV v x.2.2 ∧ Dp X.K B v p.2) m xs →
    EachIs (fun u d => ∃ x, RelV x u ∧ Dp X.K B x d) (xs.map fun x => Value.ref x.2.1) (m.map (·.1)) ∧ EachIs (fun u d => ∃ as, Reads s.heap u d as) (xs.map fun x => Value.ref x.2.1) (m.map (·.1))
  | _, _, .nil => ⟨.nil, .nil⟩
  | _, _, .cons ⟨⟨_, _, h3⟩, _⟩ t => by
    obtain ⟨a, b⟩ := keys_each I ie t
    exact ⟨.cons ⟨.ref _, rfl, h3⟩ a, .cons (Dp.reads I _ _ _ (h3.mono ie) rfl) b⟩
def rSrtD (T : Kit) : List V → Hp → VK → Prop := fun vs H Q => ∃ B v m, vs = [v] ∧ Ex B H ∧ Rp T B v (.dict m) ∧ (m.map (·.1)).all isState = true ∧ ∀ p xs, H p = none → DpAll T.K B xs (srt (m.map (·.1))) → Q (.ref p) (upd H p (.lst xs))
theorem sortable_states {ds : List D} (h : ds.all isState = true) : CanSort ds ∧ Sortable ds := by
  refine ⟨canSort (by unfold sortable; rw [h, Bool.or_true]; rfl), .inl fun d hd => ?_⟩
  obtain ⟨a, b, c, xs, ys, rfl, _⟩ := isState_of (List.all_eq_true.mp h d hd)
  exact ⟨_, _, rfl⟩
theorem sortable_rows {ds : List D} (h : ds.all isRow = true) : CanSort ds ∧ Sortable ds := by
  refine ⟨canSort (by unfold sortable; rw [h, Bool.or_true]), .inl fun d hd => ?_⟩
  obtain ⟨a, i, rfl, _⟩ := isRow_of (List.all_eq_true.mp h d hd)
  exact ⟨_, _, rfl⟩
theorem cr_srtD (hc : X.calm = true) (hu : X.A.units + 64 < cLine) : CallR X (.builtin "sorted") (rSrtD (kit X)) := by
  intro pins s σ H vs us Q I r ⟨B, v, m, e, ie, hv, hs, q⟩
  subst e
  obtain ⟨u, rfl, rx⟩ := vals1 r
  obtain ⟨p, rfl, xs, h1, h2, h3⟩ := rp_dict hv
  cases rx
  obtain ⟨c, so⟩ := sortable_states hs
  obtain ⟨e1, e2⟩ := keys_each I ie h3.each
  have hm := dict_of I ie (ie p _ h1) h3
  obtain ⟨o, es, ep, ho, hc', hdat, hes, _⟩ := hm
  have hk : es.toList.map (·.key) = xs.map fun x => Value.ref x.2.1 := by
    rw [hes, List.map_map]
    rfl
  have hz : es.size ≤ sizeLine := by rw [size_of_entries hes]; exact h3.sz
  have hlen : (m.map (·.1)).length ≤ sizeLine := by rw [List.length_map, Paired.length h3.each]; exact h3.sz
  refine sortedK (I.ok.hd hc) h2 ⟨o, ho, hc', hdat⟩ hz fun h' tk hkp => ?_
  rw [hk]
  refine sort_new e1 (e2.mono fun v b ⟨as, r⟩ => ⟨as, PyProof.Rows.Reads.keeps hkp r⟩) c.al so hlen (fun d hd => ?_) fun out h'' ho he hk2 ⟨n, hl⟩ => ?_
  · have := c.dp d hd
    show X.A.units + 1 + 1 + d.depth < cLine
    omega
  · obtain ⟨ys, q1, q2⟩ := each_back he
    have I1 : Inv X pins σ H { s with heap := h', toks := tk } := I.kept (t' := tk) hkp
    have hn : H h'.objs.size = none := I1.hok.fresh (Nat.le_refl _)
    exact ⟨.ref _, upd H h'.objs.size (.lst ys), I1.laid (t' := tk) hk2 (Nat.le_refl _) ⟨by rw [q1.length, ho]; exact hlen, out, n, q1, hl⟩, rfl, q _ ys hn q2⟩
theorem ld_srtD {T : Kit} : ClD T (rSrtD T) (fSortedD srt) := by
  intro B H vs ds d Q ie hv e k
  unfold fSortedD at e
  split at e
  · split at e
    · rename_i hs
      cases e
      obtain ⟨v, rfl, h⟩ := rps1 hv
      refine ⟨B, v, _, rfl, ie, h, hs, fun p xs np q => ?_⟩
      obtain ⟨g, q'⟩ := new_lst (T := T) q ie np
      exact k _ _ _ g q'
    · cases e
  · cases e
end
end Sk
/-! SkLay15: sorted(d.items()) -/
namespace Sk
open PySem PySem.Spec PyProof.Rows L2 Evl PySem.W PySem.Calls
section
variable {X : Cx} {pins : List (Addr × Obj)} {σ : L2.St} {H B : Hp} {s : Shared}
/-- d.items() -/
def tItN (T : Kit) (f : FE) : TE := fun σ H Q => ∃ B r d, Ex B H ∧ EnvI T σ B r ∧ f r = some d ∧ (∃ m, d = .dict m) ∧ ∀ B1 H1, Grow B H B1 H1 → ∀ p xs m, d = .dict m → B1 p = some (dOb T p xs) → (p == sysModules) = false → Ents T B1 m xs → ∀ q, H1 q = none → Q (.ref q) (upd H1 q (DX.itemsO q p))
theorem pe_items {e : Expr} {f : FE} {apos cpos : Pos} (he : PED X false e f) (hbase : attributeBase e "items" X.env (eval e X.env) = eval e X.env := by rfl) (hline : (apos.endLine == cpos.line) = true := by rfl) :
    PE X (.Call (.Attribute e "items" apos) [] [] cpos) (tItN (kit X) f) := by
  refine ⟨fun pins s σ H Q I ⟨B, r, d, ie, en, hf, ⟨m, hd⟩, k⟩ => ?_⟩
  subst hd
  refine wpAny_Call_method0_late hbase hline (thn (he.run pins s σ H (fun v H1 => ∃ B1, Grow B H B1 H1 ∧ Rp (kit X) B1 v (.dict m)) I ⟨B, r, _, ie, en, hf, fun v B1 H1 g q => ⟨B1, g, q⟩⟩) fun v s1 ⟨x, H1, I1, r1, B1, g1, q1⟩ => ?_)
  obtain ⟨p, rfl, xs, h1, h2, h3⟩ := rp_dict q1
  cases r1
  obtain ⟨o, es, ep, ho, hx, hdat, _⟩ := dict_of I1 g1.i (g1.i p _ h1) h3
  refine ⟨"dict", "dict.items", PySem.F.plainAttrs_dict, PySem.F.slot_dict_items, (by rfl), ⟨o, ho, hx.1⟩, (fun a e => by cases e; exact ⟨o, ho, hx.2.1⟩), Calls.callWith_builtin rfl (PySem.evalArgs_none ?_)⟩
  refine DT.callItems (es := es) (ep := ep) h2 ⟨o, ho, hx, hdat⟩ ?_
  have hn : H1 s1.heap.objs.size = none := I1.hok.fresh (Nat.le_refl _)
  exact ⟨.ref s1.heap.objs.size, upd H1 s1.heap.objs.size (DX.itemsO s1.heap.objs.size p), I1.laid (t' := s1.toks) (fun b u e => Heap.get?_push_of_some _ e) (Nat.le_refl _) (DX.itemsO_ok (Heap.get?_push_size _ rfl)), rfl, k B1 H1 g1 p xs m rfl h1 h2 h3 _ hn⟩
theorem pget' {α β : Type} {F : α → β → Prop} : ∀ {l₁ : List α} {l₂ : List β} {j : Nat} {x : β}, Paired F l₁ l₂ → l₂[j]? = some x → ∃ y, l₁[j]? = some y ∧ F y x
  | _, _, _, _, .nil, e => by simp at e
  | _, _, 0, _, .cons h _, e => by simp at e; subst e; exact ⟨_, rfl, h⟩
  | _, _, j + 1, _, .cons _ t, e => by
    obtain ⟨y, h1, h2⟩ := pget' (j := j) t (by simpa using e)
    exact ⟨y, by simpa using h1, h2⟩
theorem each_at {α β : Type} {R : α → β → Prop} : ∀ {as : List α} {bs : List β}, as.length = bs.length → (∀ (j : Nat) (a : α) (b : β), as[j]? = some a → bs[j]? = some b → R a b) → EachIs R as bs
  | [], [], _, _ => .nil
  | a :: as, b :: bs, h, k => .cons (k 0 a b rfl rfl) (each_at (Nat.succ.inj h) fun j x y e f => k (j + 1) x y (by simpa using e) (by simpa using f))
  | [], _ :: _, h, _ => by cases h
  | _ :: _, [], h, _ => by cases h
theorem each_vals {R : Value → D → Prop} {F : V → D → Prop} (g : ∀ u d, R u d → ∃ b, u = .ref b ∧ F (.ref b) d) : ∀ {out : List Value} {ds : List D}, EachIs R out ds → ∃ ys : List V, Vals ys out ∧ Paired F ys ds
  | _, _, .nil => ⟨[], .nil, .nil⟩
  | _, _, .cons h t => by
    obtain ⟨b, rfl, hF⟩ := g _ _ h
    obtain ⟨ys, q1, q2⟩ := each_vals g t
    exact ⟨.ref b :: ys, .cons rfl q1, .cons hF q2⟩
theorem dpAll_of {K : PySem.W.Frag} {B : Hp} : ∀ {ys : List V} {ds : List D}, Paired (Dp K B) ys ds → DpAll K B ys ds
  | _, _, .nil => .nil
  | _, _, .cons h t => .cons h (dpAll_of t)
/-- the pairs of a dict, as data -/
abbrev rowsD (m : Kvs) : List D := m.map fun p => .tuple [p.1, p.2]
def rSrtI (T : Kit) : List V → Hp → VK → Prop := fun vs H Q => ∃ B m p q xs, vs = [.ref q] ∧ Ex B H ∧ H q = some (DX.itemsO q p) ∧ B p = some (dOb T p xs) ∧ Ents T B m xs ∧ (rowsD m).all isRow = true ∧
  ∀ B' H' v, Grow B H B' H' → Rp T B' v (.list (srt (rowsD m))) → Q v H'
theorem cr_srtI (hc : X.calm = true) (hu : X.A.units + 64 < cLine) : CallR X (.builtin "sorted") (rSrtI (kit X)) := by
  intro pins s σ H vs us Q I r ⟨B, m, p, q, xs, e, ie, hq, hp, en, hs, k⟩
  subst e
  obtain rfl := Vals.ref1 r
  have view : s.heap.IsItemsView q p := (show ObjOk X.prog X.w H s.heap q (DX.itemsO q p) from I.hok q _ hq).1
  obtain ⟨o, es, ep, ho, hx, hdat, hes, _⟩ := dict_of I ie (ie p _ hp) en
  have hz : es.size ≤ sizeLine := by rw [size_of_entries hes]; exact en.sz
  have hml : m.length = xs.length := Paired.length en.each
  have hel : es.size = xs.length := size_of_entries hes
  obtain ⟨c, so⟩ := sortable_rows hs
  refine DT.sortedI (es := es) (ep := ep) (I.ok.hd hc) view ⟨o, ho, hx, hdat⟩ hz fun h' tk as hk hlt hl hG => ?_
  have nd : as.Nodup := List.Pairwise.imp (fun h => Nat.ne_of_lt h) hG.rise
  -- each pair: what stands in it
  have pr : ∀ (j : Nat) (b : Addr), as[j]? = some b → ∃ kd vd kb v u, m[j]? = some (kd, vd) ∧ Dp X.K B (.ref kb) kd ∧ Dp X.K B v vd ∧ RelV v u ∧ h'.get? b = some { cls := .type "tuple", data := .seq #[Value.ref kb, u] } := by
    intro j b hj
    obtain ⟨en', he, hg⟩ := hG.pairs j b hj
    have hj' : j < es.size := by
      obtain ⟨z, _⟩ := Array.getElem?_eq_some_iff.mp he
      exact z
    have hx' : xs[j]? = some xs[j] := List.getElem?_eq_getElem (by omega)
    rw [← Array.getElem?_toList, hes, List.getElem?_map, hx'] at he
    have een : entryOfKey (nestedKind X.prog X.w) xs[j] = en' := Option.some.inj he
    have hm' : m[j]? = some m[j] := List.getElem?_eq_getElem (by omega)
    obtain ⟨y, hy, hrel⟩ := pget' en.each hx'
    rw [hm'] at hy
    cases hy
    obtain ⟨⟨z1, z2, z3⟩, z4, v, z5, z6⟩ := hrel
    refine ⟨m[j].1, m[j].2, xs[j].2.1, v, xs[j].2.2, hm', z3, z6, z5, ?_⟩
    rw [hg, ← een]
    rfl
  have lam : (as.map Value.ref).length = (rowsD m).length := by rw [List.length_map, List.length_map, hl, hel, hml]
  have at_ : ∀ (j : Nat) (u : Value) (d : D), (as.map Value.ref)[j]? = some u → (rowsD m)[j]? = some d → ∃ b kd vd kb v u', as[j]? = some b ∧ u = .ref b ∧ m[j]? = some (kd, vd) ∧ d = .tuple [kd, vd] ∧ Dp X.K B (.ref kb) kd ∧ Dp X.K B v vd ∧ RelV v u' ∧ h'.get? b = some { cls := .type "tuple", data := .seq #[Value.ref kb, u'] } := by
    intro j u d e1 e2
    rw [List.getElem?_map] at e1 e2
    obtain ⟨b, hb, rfl⟩ := map1 e1
    obtain ⟨kv, hkv, rfl⟩ := map1 e2
    obtain ⟨kd, vd, kb, v, u', h1, h2, h3, h4, h5⟩ := pr j b hb
    rw [h1] at hkv
    cases hkv
    exact ⟨b, kd, vd, kb, v, u', hb, rfl, h1, rfl, h2, h3, h4, h5⟩
  refine sort_new (R := fun u d => ∃ (j : Nat) (b : Addr) (kd vd : D), as[j]? = some b ∧ u = .ref b ∧ m[j]? = some (kd, vd) ∧ d = .tuple [kd, vd]) (each_at lam fun j u d e1 e2 => ?_) (each_at lam fun j u d e1 e2 => ?_) c.al so (by rw [List.length_map, hml]; exact en.sz) (fun d hd => ?_) fun out h'' ho he hk2 ⟨n, hob⟩ => ?_
  · obtain ⟨b, kd, vd, kb, v, u', h1, h2, h3, h4, _⟩ := at_ j u d e1 e2
    exact ⟨j, b, kd, vd, h1, h2, h3, h4⟩
  · obtain ⟨b, kd, vd, kb, v, u', h1, rfl, h3, rfl, h5, h6, h7, h8⟩ := at_ j u d e1 e2
    obtain ⟨as1, r1⟩ := Dp.reads I kd _ (.ref kb) (h5.mono ie) rfl
    obtain ⟨as2, r2⟩ := Dp.reads I vd _ u' (h6.mono ie) h7
    exact ⟨_, .tuple h8 rfl rfl (.cons (PyProof.Rows.Reads.keeps hk r1) (.cons (PyProof.Rows.Reads.keeps hk r2) .nil))⟩
  · have := c.dp d hd
    show X.A.units + 1 + 1 + d.depth < cLine
    omega
  · have hn0 : H h'.objs.size = none := I.hok.fresh (Nat.le_of_lt hlt)
    have kS : ∀ b o, s.heap.get? b = some o → h''.get? b = some o := fun b o e => hk2 b o (hk b o e)
    obtain ⟨ys, q1, q2⟩ := each_vals (F := fun y d => ∃ (j : Nat) (b : Addr) (kd vd : D), as[j]? = some b ∧ y = .ref b ∧ m[j]? = some (kd, vd) ∧ d = .tuple [kd, vd]) (fun u d ⟨j, b, kd, vd, h1, h2, h3, h4⟩ => ⟨b, h2, j, b, kd, vd, h1, rfl, h3, h4⟩) he
    have I2 : Inv X pins σ (upd H h'.objs.size (.lst ys)) { s with heap := h'', toks := tk } :=
      I.laid (t' := tk) kS (Nat.le_of_lt hlt) ⟨by rw [q1.length, ho, List.length_map, hml]; exact en.sz, out, n, q1, hob⟩
    obtain ⟨H2, I3, g, qt⟩ := DX.takeT (P := fun b vs => ∃ (j : Nat) (kd vd : D) (kb : Addr) (v : V), as[j]? = some b ∧ m[j]? = some (kd, vd) ∧ vs = [.ref kb, v] ∧ Dp X.K B (.ref kb) kd ∧ Dp X.K B v vd) I as _ I2 nd fun b hb => by
      obtain ⟨j, hj⟩ := List.mem_iff_getElem?.mp hb
      obtain ⟨kd, vd, kb, v, u', h1, h2, h3, h4, h5⟩ := pr j b hj
      have hbl : s.heap.objs.size ≤ b := Nat.le_of_lt (hG.above b hb)
      refine ⟨hbl, ?_, [.ref kb, v], ⟨j, kd, vd, kb, v, hj, h1, rfl, h2, h3⟩, fun H3 => ⟨(by rw [sizeLine_eq]; show 2 ≤ 16777216; omega), [Value.ref kb, u'], .cons rfl (.cons h4 .nil), ⟨_, hk2 _ _ h5, rfl, 0, rfl⟩⟩⟩
      rw [upd_ne (Nat.ne_of_lt (Heap.lt_size h5))]
      exact I.hok.fresh hbl
    have gr : ∀ b o, H b = some o → H2 b = some o := fun b o e => g b o (by rw [upd_ne (ne_of_none e hn0)]; exact e)
    classical
    have G : Grow B H (fun a => if H a = none then H2 a else B a) H2 := by
      refine ⟨fun a o e => ?_, fun a o e => ?_, gr, fun a e1 e2 => ?_⟩
      · rw [if_neg (by rw [ie a o e]; exact fun z => nomatch z)]
        exact e
      · split at e
        · exact e
        · exact gr a o (ie a o e)
      · by_cases z : H a = none
        · exact z
        · rw [if_neg z] at e2
          exact absurd e1 e2
    refine ⟨.ref h'.objs.size, H2, I3, rfl, k _ H2 _ G (.inl (.lst (.inl (.inl ?_)) (dpAll_of (Paired.mapP q2 fun y d hy => ?_))))⟩
    · dsimp only
      rw [if_pos hn0]
      exact g _ _ upd_same
    · obtain ⟨j, b, kd, vd, h1, rfl, h3, rfl⟩ := hy
      obtain ⟨vs, ⟨j', kd', vd', kb, v, z1, z2, rfl, z4, z5⟩, z6⟩ := qt b (List.mem_of_getElem? h1)
      have eij : j = j' := (List.getElem?_inj (List.getElem?_eq_some_iff.mp h1).1 nd).mp (h1.trans z1.symm)
      subst eij
      rw [h3] at z2
      cases z2
      have hnb : H b = none := I.hok.fresh (Nat.le_of_lt (hG.above b (List.mem_of_getElem? h1)))
      refine .tup (.inl (.inl ?_)) (.cons (z4.mono G.b) (.cons (z5.mono G.b) .nil))
      dsimp only
      rw [if_pos hnb]
      exact z6
/-- sorted(e.items()) -/
theorem d_srtI {e : Expr} {f : FE} {apos cpos p pos : Pos} (hc : X.calm = true) (hu : X.A.units + 64 < cLine) (hg : Gl X "sorted") (hm : X.mg "sorted" = none) (he' : PED X false e f) (hbase : attributeBase e "items" X.env (eval e X.env) = eval e X.env := by rfl) (hline : (apos.endLine == cpos.line) = true := by rfl)
    (hs : starEach [.Call (.Attribute e "items" apos) [] [] cpos] X.env = (false, eval (.Call (.Attribute e "items" apos) [] [] cpos) X.env) :: starEach [] X.env := by rfl)
    (he : starEach (.Call (.Attribute e "items" apos) [] [] cpos :: []) X.env = (false, eval (.Call (.Attribute e "items" apos) [] [] cpos) X.env) :: starEach [] X.env := by rfl) (hpl : (backTo pos (starEach [] X.env)).any (·.1) = false := by rfl) :
    PED X false (.Call (.Name "sorted" p) [.Call (.Attribute e "items" apos) [] [] cpos] [] pos) (eF (fSortedI srt) (aCons f aNil)) :=
  pe_imp (pe_callB (cr_srtI hc hu) hg hm (by decide +kernel) (pa_cons (pe_items he' hbase hline) pa_nil hs) (by decide) (by decide) he hpl) fun σ H Q ⟨B, r, d, ie, en, hf, k⟩ => by
    obtain ⟨xs, h1, h2⟩ := bind1 hf
    obtain ⟨x, ys, h3, h4, h5⟩ := bind2 h1
    cases h5
    cases h4
    unfold fSortedI at h2
    split at h2
    · rename_i m q
      cases q
      split at h2
      · rename_i hr
        cases h2
        refine ⟨B, r, _, ie, en, h3, ⟨m, rfl⟩, fun B1 H1 g1 p xs m' em hp hsm ent q hq => ?_⟩
        cases em
        exact ⟨B1, m, p, q, xs, rfl, g1.i.upd (g1.i.back hq), upd_same, hp, ent, hr, fun B2 H2 v g2 q2 => k v B2 H2 (g1.trans ⟨g2.b, g2.i, (Ex.up hq).trans g2.h, fun a e1 e2 => (Ex.up hq).back (g2.n a e1 e2)⟩) q2⟩
      · cases h2
    · cases h2
end
end Sk
/-! SkLay16: sorted(t), t a tuple of ints -/
namespace Sk
open PySem PySem.Spec PyProof.Rows L2 Evl PySem.W PySem.Calls
section
variable {prog : Program} {w : World} {A : Around} {E : Value → Shared → Prop} {s : Shared}
theorem sortedTup {a : Addr} {items : Array Value} {Q : Value → Shared → Prop} (hl : IsTup s.heap a items) (hn : items.size ≤ sizeLine)
    (h : ∀ (h' : Heap), (∀ b o, s.heap.get? b = some o → h'.get? b = some o) →
      wpAny (model prog w) A.in1 (call (.builtin "list.sort") [.ref h'.objs.size]) (fun _ s' => Q (.ref h'.objs.size) s') E { s with heap := h'.push { cls := .type "list", data := .seq items.toList.toArray } }) :
    wpAny (model prog w) A (call (.builtin "sorted") [.ref a]) Q E s := by
  obtain ⟨o, ho, hc, n, hd⟩ := hl
  refine call_function_entry kind_sorted plain_sorted entry_sorted (args_sorted1 _) ?_
  unfold Builtin.«sorted»
  refine wpAny_bind (m := checkCount "sorted" 1 1 _) (wpAny_pure ?_)
  refine wpAny_bind (wpAny_collect_seq (A := A.in1) (hsz := hn) a (.inr rfl) ho hc hd fun h' hk => ?_)
  refine wpAny_bind (wpAny_newList ?_ (by rw [Array.length_toList]; exact hn))
  have hg := h h' hk
  refine wpAny_bind (wpAny_holding (wpAny_mono hg (fun _ s' x => ?_) fun _ _ e => e))
  exact wpAny_pure ⟨_, rfl, x⟩
end
section
variable {X : Cx}
def rSrtT (T : Kit) : List V → Hp → VK → Prop := fun vs H Q => ∃ B v ds, vs = [v] ∧ Ex B H ∧ Rp T B v (.tuple ds) ∧ ds.all isInt = true ∧ ∀ p xs, H p = none → DpAll T.K B xs (srt ds) → Q (.ref p) (upd H p (.lst xs))
theorem cr_srtT (hu : X.A.units + 64 < cLine) : CallR X (.builtin "sorted") (rSrtT (kit X)) := by
  intro pins s σ H vs us Q I r ⟨B, v, ds, e, ie, hv, hs, q⟩
  subst e
  obtain ⟨u, rfl, rx⟩ := vals1 r
  obtain ⟨a, ys, rfl, h1, h2⟩ := rp_tup hv
  cases rx
  obtain ⟨its, rv, hl, hz⟩ := I.tuple (ex_t ie h1)
  obtain ⟨e1, e2⟩ := each_of I ie h2 rv
  have c : CanSort ds := canSort (by unfold sortable; rw [hs]; rfl)
  have so : Sortable ds := .inr fun x hx => by
    obtain ⟨i, rfl⟩ := isInt_of (List.all_eq_true.mp hs x hx)
    exact ⟨(fun z => by cases z), (fun xs z => by cases z)⟩
  have hlen : ds.length ≤ sizeLine := by rw [← h2.len]; exact hz
  refine sortedTup hl (by rw [List.size_toArray, ← rv.length]; exact hz) fun h' hkp => ?_
  refine sort_new (tk := s.toks) e1 (e2.mono fun v b ⟨as, r⟩ => ⟨as, PyProof.Rows.Reads.keeps hkp r⟩) c.al so hlen (fun d hd => ?_) fun out h'' ho he hk2 ⟨n, hl⟩ => ?_
  · have := c.dp d hd
    show X.A.units + 1 + 1 + d.depth < cLine
    omega
  · obtain ⟨zs, q1, q2⟩ := each_back he
    have I1 : Inv X pins σ H { s with heap := h' } := I.kept (t' := s.toks) hkp
    have hn : H h'.objs.size = none := I1.hok.fresh (Nat.le_refl _)
    exact ⟨.ref _, upd H h'.objs.size (.lst zs), I1.laid (t' := s.toks) hk2 (Nat.le_refl _) ⟨by rw [q1.length, ho]; exact hlen, out, n, q1, hl⟩, rfl, q _ zs hn q2⟩
theorem ld_srtT {T : Kit} : ClD T (rSrtT T) (fSortedT srt) := by
  intro B H vs ds d Q ie hv e k
  unfold fSortedT at e
  split at e
  · split at e
    · rename_i hs
      cases e
      obtain ⟨v, rfl, h⟩ := rps1 hv
      refine ⟨B, v, _, rfl, ie, h, hs, fun p xs np q => ?_⟩
      obtain ⟨g, q'⟩ := new_lst (T := T) q ie np
      exact k _ _ _ g q'
    · cases e
  · cases e
end
end Sk
/-! SkProgSem (printed by gen.py): what each def of the program computes, on data -/
namespace Sk
open PySem
/-- the turns of reached's loop that are counted -/
def FU : Nat := 4000000
section
variable (srt : List D → List D)
def b_end_of : SE :=
  (sSeq (sAsg (.t [2, 3, 4, 5, 6]) (eB oIx (eB oIx (eV 0) (eC (.int 0))) (eV 1))) (sRet (eB oAdd (eV 3) (eV 4))))
def s_end_of : List D → Option D := runDef 2 7 b_end_of
def b_turning : SE :=
  (sRet (eU oNeg (eB oDiv (eU oNeg (eF fAbs (aCons (eB oSub (eB oIx (eB oIx (eB oIx (eV 0) (eC (.int 0))) (eV 2)) (eC (.int 3))) (eB oIx (eB oIx (eB oIx (eV 0) (eC (.int 0))) (eV 1)) (eC (.int 3)))) aNil))) (eB oIx (eV 0) (eC (.int 4))))))
def s_turning : List D → Option D := runDef 3 3 b_turning
def b_loss : SE :=
  (sSeq (sAsg (.n 3) (eC (.int 0))) (sSeq (sFor (iL (eV 0)) (.t [4, 5, 6])
    (sAug 3 oAdd (eB oMul (eV 6) (eF fMax2 (aCons (eC (.int 0)) (aCons (eB oSub (eF fMin2 (aCons (eV 2) (aCons (eV 5) aNil))) (eF fMax2 (aCons (eV 1) (aCons (eV 4) aNil)))) aNil)))))) (sRet (eV 3))))
def s_loss : List D → Option D := runDef 3 7 b_loss
def b_emptied : SE :=
  (sRet (eF fMax2 (aCons (eC (.int 0)) (aCons (eB oSub (eV 1) (eF s_loss (aCons (eB oIx (eV 0) (eC (.int 2))) (aCons (eV 2) (aCons (eV 3) aNil))))) aNil))))
def s_emptied : List D → Option D := runDef 4 4 b_emptied
def b_without_ears : SE :=
  (sSeq (sAsg (.t [2, 3, 4, 5, 6]) (eV 0)) (sSeq (sAsg (.n 7) (eLc (iR (eF fLen (aCons (eV 4) aNil))) (.n 8) (tC cNi (eV 8) (eV 1)) (eB oIx (eV 4) (eV 8)))) (sRet (eTup (aCons (eF fList (aCons (eV 2) aNil)) (aCons (eF fList (aCons (eV 3) aNil)) (aCons (eV 7) (aCons (eV 5) (aCons (eV 6) aNil)))))))))
def s_without_ears : List D → Option D := runDef 2 9 b_without_ears
def b_ways_of : SE :=
  (sSeq (sAsg (.n 3) (eLst (aCons (eF fTuple (aCons (eV 1) aNil)) aNil))) (sSeq (sFor (iL (eV 0)) (.n 4)
    (sAsg (.n 3) (eB oCatL (eV 3) (eLc (iL (eV 3)) (.n 5) tTrue (eB oCatT (eV 5) (eTup (aCons (eV 4) aNil))))))) (sRet (eF (fSorted srt) (aCons (eLc (iL (eV 3)) (.n 5) (tC cLe (eF fLen (aCons (eV 5) aNil)) (eV 2)) (eV 5)) aNil)))))
def s_ways_of : List D → Option D := runDef 3 6 (b_ways_of srt)
def b_begun_between : SE :=
  (sRet (eLc (iR (eF fLen (aCons (eB oIx (eV 0) (eC (.int 2))) aNil))) (.n 3) (tCh cLt cLe (eV 1) (eB oIx (eB oIx (eB oIx (eV 0) (eC (.int 2))) (eV 3)) (eC (.int 0))) (eV 2)) (eV 3)))
def s_begun_between : List D → Option D := runDef 3 4 b_begun_between
def b_first_states : SE :=
  (sSeq (sIf (tNot (tTr (eB oIx (eV 0) (eC (.int 0)))))
    (sRetN (eLst aNil))
    sNil) (sSeq (sAsg (.n 2) (eF s_begun_between (aCons (eV 0) (aCons (eU oNeg (eC (.int 1))) (aCons (eB oIx (eB oIx (eB oIx (eV 0) (eC (.int 0))) (eC (.int 0))) (eC (.int 1))) aNil))))) (sRetN (eLc (iL (eF (s_ways_of srt) (aCons (eV 2) (aCons (eTup aNil) (aCons (eV 1) aNil))))) (.n 3) tTrue (eTup (aCons (eC (.int 0)) (aCons (eU oNeg (eC (.int 1))) (aCons (eC (.int 0)) (aCons (eTup aNil) (aCons (eV 3) aNil))))))))))
def s_first_states : List D → Option D := runDef 2 4 (b_first_states srt)
def b_may_take : SE :=
  (sSeq (sAsg (.t [2, 3, 4, 5, 6]) (eV 1)) (sSeq (sAsg (.t [7, 8, 9, 10, 11]) (eB oIx (eB oIx (eV 0) (eC (.int 0))) (eV 2))) (sSeq (sIf (tOr (tC cIn (eV 7) (eV 5)) (tC cGt (eB oAdd (eV 4) (eV 11)) (eB oIx (eV 0) (eC (.int 3)))))
    (sRet (eC (.bool false)))
    sNil) (sRet (eOr (eT (tC cLt (eV 3) (eC (.int 0)))) (eT (tC cLe (eB oAdd (eF s_end_of (aCons (eV 0) (aCons (eV 3) aNil))) (eF s_turning (aCons (eV 0) (aCons (eV 3) (aCons (eV 2) aNil))))) (eV 8))))))))
def s_may_take : List D → Option D := runDef 2 12 b_may_take
def b_moves_of : SE :=
  (sSeq (sIf (tTr (eF s_may_take (aCons (eV 0) (aCons (eV 1) aNil))))
    (sRet (eLst (aCons (eC (.str "leave")) (aCons (eC (.str "take")) aNil))))
    sNil) (sRet (eLst (aCons (eC (.str "leave")) aNil))))
def s_moves_of : List D → Option D := runDef 2 2 b_moves_of
def b_gain_of : SE :=
  (sSeq (sIf (tC cEq (eV 2) (eC (.str "take")))
    (sRet (eB oIx (eB oIx (eV 0) (eC (.int 1))) (eB oIx (eB oIx (eB oIx (eV 0) (eC (.int 0))) (eB oIx (eV 1) (eC (.int 0)))) (eC (.int 0)))))
    sNil) (sRet (eC (.int 0))))
def s_gain_of : List D → Option D := runDef 3 3 b_gain_of
def b_amount_behind : SE :=
  (sSeq (sIf (tAnd (tC cGe (eV 2) (eC (.int 0))) (tCh cLt cLe (eV 3) (eF s_end_of (aCons (eV 0) (aCons (eV 2) aNil))) (eV 4)))
    (sSeq (sAsg (.n 5) (eF s_end_of (aCons (eV 0) (aCons (eV 2) aNil)))) (sSeq (sAsg (.n 1) (eB oAdd (eF s_emptied (aApp (aCons (eV 0) (aCons (eV 1) aNil)) (aCons (eV 3) (aCons (eV 5) aNil)))) (eB oIx (eB oIx (eB oIx (eV 0) (eC (.int 0))) (eV 2)) (eC (.int 4))))) (sAsg (.n 3) (eV 5))))
    sNil) (sRet (eF s_emptied (aApp (aCons (eV 0) (aCons (eV 1) aNil)) (aCons (eV 3) (aCons (eV 4) aNil))))))
def s_amount_behind : List D → Option D := runDef 5 6 b_amount_behind
def b_states_behind : SE :=
  (sSeq (sAsg (.t [4, 5, 6, 7, 8]) (eV 1)) (sSeq (sIf (tC cEq (eB oAdd (eV 4) (eC (.int 1))) (eF fLen (aCons (eB oIx (eV 0) (eC (.int 0))) aNil)))
    (sRet (eLst aNil))
    sNil) (sSeq (sIf (tC cEq (eV 2) (eC (.str "take")))
    (sSeq (sAsg (.n 5) (eV 4)) (sAsg (.n 7) (eF fTuple (aCons (eF (fSortedT srt) (aCons (eB oCatT (eV 7) (eTup (aCons (eB oIx (eB oIx (eB oIx (eV 0) (eC (.int 0))) (eV 4)) (eC (.int 0))) aNil))) aNil)) aNil))))
    sNil) (sSeq (sPar 9 10 (eB oIx (eB oIx (eB oIx (eV 0) (eC (.int 0))) (eV 4)) (eC (.int 1))) (eB oIx (eB oIx (eB oIx (eV 0) (eC (.int 0))) (eB oAdd (eV 4) (eC (.int 1)))) (eC (.int 1)))) (sSeq (sNew 11 (eLst aNil)) (sSeq (sFor (iL (eF (s_ways_of srt) (aCons (eF s_begun_between (aCons (eV 0) (aCons (eV 9) (aCons (eV 10) aNil)))) (aCons (eV 8) (aCons (eV 3) aNil))))) (.n 12)
    (sSeq (sAsg (.n 13) (eF s_amount_behind (aCons (eF s_without_ears (aCons (eV 0) (aCons (eV 12) aNil))) (aCons (eV 6) (aCons (eV 5) (aCons (eV 9) (aCons (eV 10) aNil))))))) (sApp 11 (eTup (aCons (eB oAdd (eV 4) (eC (.int 1))) (aCons (eV 5) (aCons (eV 13) (aCons (eV 7) (aCons (eV 12) aNil))))))))) (sRet (eF (fSorted srt) (aCons (eV 11) aNil)))))))))
def s_states_behind : List D → Option D := runDef 4 14 (b_states_behind srt)
def b_reached : SE :=
  (sSeq (sNew 2 (eF (s_first_states srt) (aApp (aCons (eV 0) aNil) (aCons (eV 1) aNil)))) (sSeq (sNewD 4 (eDc (iL (eV 2)) (.n 3) (eV 3) (eC (.bool true)))) (sSeq (whGo (tTr (eV 2))
    (sSeq (sPop 3 2) (sFor (iL (eF s_moves_of (aCons (eV 0) (aCons (eV 3) aNil)))) (.n 5)
    (sFor (iL (eF (s_states_behind srt) (aApp (aCons (eV 0) (aCons (eV 3) (aCons (eV 5) aNil))) (aCons (eV 1) aNil)))) (.n 6)
    (sIf (tC cNiDd (eV 6) (eV 4))
    (sSeq (sStD 4 6 (eC (.bool true))) (sApp 2 (eV 6)))
    sNil)))) FU) (sRet (eF (fSortedD srt) (aCons (eV 4) aNil))))))
def s_reached : List D → Option D := runDef 2 7 (b_reached srt)
def b_sure_by : SE :=
  (sSeq (sAsg (.n 5) (eLc (iL (eF (s_states_behind srt) (aApp (aCons (eV 0) (aCons (eV 1) (aCons (eV 2) aNil))) (aCons (eV 4) aNil)))) (.n 6) tTrue (eB oGet (eV 3) (eV 6)))) (sRet (eB oAdd (eF s_gain_of (aCons (eV 0) (aCons (eV 1) (aCons (eV 2) aNil)))) (eF fMinD (aCons (eV 5) (aCons (eC (.int 0)) aNil))))))
def s_sure_by : List D → Option D := runDef 5 7 (b_sure_by srt)
def b_sure_numbers : SE :=
  (sSeq (sNew 2 eDict0) (sSeq (sFor (Sk.iRev (eF (s_reached srt) (aCons (eV 0) (aCons (eV 1) aNil)))) (.n 3)
    (sStD 2 3 (eF fMax (aCons (eLc (iL (eF s_moves_of (aCons (eV 0) (aCons (eV 3) aNil)))) (.n 4) tTrue (eF (s_sure_by srt) (aCons (eV 0) (aCons (eV 3) (aCons (eV 4) (aCons (eV 2) (aCons (eV 1) aNil))))))) aNil)))) (sRet (eV 2))))
def s_sure_numbers : List D → Option D := runDef 2 5 (b_sure_numbers srt)
def b_sure_table : SE :=
  (sRet (eF (fSortedI srt) (aCons (eF (s_sure_numbers srt) (aCons (eV 0) (aCons (eV 1) aNil))) aNil)))
def s_sure_table : List D → Option D := runDef 2 2 (b_sure_table srt)
def b_sure_rule : SE :=
  (sSeq (sAsg (.n 2) (eF (s_sure_numbers srt) (aCons (eV 0) (aCons (eV 1) aNil)))) (sSeq (sNew 3 (eLst aNil)) (sSeq (sFor (iL (eF (fSortedD srt) (aCons (eV 2) aNil))) (.n 4)
    (sSeq (sAsg (.n 5) (eC (.str "leave"))) (sSeq (sIf (tAnd (tTr (eF s_may_take (aCons (eV 0) (aCons (eV 4) aNil)))) (tC cEq (eF (s_sure_by srt) (aCons (eV 0) (aCons (eV 4) (aCons (eC (.str "take")) (aCons (eV 2) (aCons (eV 1) aNil)))))) (eB oGet (eV 2) (eV 4))))
    (sAsg (.n 5) (eC (.str "take")))
    sNil) (sApp 3 (eTup (aCons (eV 4) (aCons (eV 5) aNil))))))) (sRet (eV 3)))))
def s_sure_rule : List D → Option D := runDef 2 6 (b_sure_rule srt)
def b_is_sure_lower : SE :=
  (sSeq (sAsg (.n 3) (eF fDict (aCons (eV 1) aNil))) (sSeq (sIf (tOr (tC cNe (eF fLenD (aCons (eV 3) aNil)) (eF fLen (aCons (eV 1) aNil))) (tNot (tTr (eF fAll (aCons (eLc (iL (eF (s_first_states srt) (aApp (aCons (eV 0) aNil) (aCons (eV 2) aNil)))) (.n 9) tTrue (eT (tC cInD (eV 9) (eV 3)))) aNil)))))
    (sRet (eC (.bool false)))
    sNil) (sSeq (sFor (iL (eV 1)) (.t [4, 5])
    (sSeq (sAsg (.n 6) (eC (.bool false))) (sSeq (sFor (iL (eF s_moves_of (aCons (eV 0) (aCons (eV 4) aNil)))) (.n 7)
    (sSeq (sAsg (.n 8) (eF (s_states_behind srt) (aApp (aCons (eV 0) (aCons (eV 4) (aCons (eV 7) aNil))) (aCons (eV 2) aNil)))) (sIf (tAnd (tTr (eF fAll (aCons (eLc (iL (eV 8)) (.n 9) tTrue (eT (tC cInD (eV 9) (eV 3)))) aNil))) (tC cGe (eF (s_sure_by srt) (aCons (eV 0) (aCons (eV 4) (aCons (eV 7) (aCons (eV 3) (aCons (eV 2) aNil)))))) (eV 5)))
    (sAsg (.n 6) (eC (.bool true)))
    sNil))) (sIf (tNot (tTr (eV 6)))
    (sRet (eC (.bool false)))
    sNil)))) (sRet (eC (.bool true))))))
def s_is_sure_lower : List D → Option D := runDef 3 10 (b_is_sure_lower srt)
def b_is_sure_upper : SE :=
  (sSeq (sAsg (.n 3) (eF fDict (aCons (eV 1) aNil))) (sSeq (sAsg (.n 4) (eF (s_first_states srt) (aApp (aCons (eV 0) aNil) (aCons (eV 2) aNil)))) (sSeq (sIf (tOr (tC cNe (eF fLenD (aCons (eV 3) aNil)) (eF fLen (aCons (eV 1) aNil))) (tAnd (tTr (eV 4)) (tNot (tTr (eF fAny (aCons (eLc (iL (eV 4)) (.n 10) tTrue (eT (tC cInD (eV 10) (eV 3)))) aNil))))))
    (sRet (eC (.bool false)))
    sNil) (sSeq (sFor (iL (eV 1)) (.t [5, 6])
    (sFor (iL (eF s_moves_of (aCons (eV 0) (aCons (eV 5) aNil)))) (.n 7)
    (sSeq (sAsg (.n 8) (eF (s_states_behind srt) (aApp (aCons (eV 0) (aCons (eV 5) (aCons (eV 7) aNil))) (aCons (eV 2) aNil)))) (sSeq (sAsg (.n 9) (eLc (iL (eV 8)) (.n 10) (tC cInD (eV 10) (eV 3)) (eB oGet (eV 3) (eV 10)))) (sIf (tOr (tAnd (tTr (eV 8)) (tNot (tTr (eV 9)))) (tC cGt (eB oAdd (eF s_gain_of (aCons (eV 0) (aCons (eV 5) (aCons (eV 7) aNil)))) (eF fMinD (aCons (eV 9) (aCons (eC (.int 0)) aNil)))) (eV 6)))
    (sRet (eC (.bool false)))
    sNil))))) (sRet (eC (.bool true)))))))
def s_is_sure_upper : List D → Option D := runDef 3 11 (b_is_sure_upper srt)
def b_law_draws : SE :=
  (sSeq (sNew 2 (eLc (iL (eV 0)) (.n 8) tTrue (eV 8))) (sSeq (sNew 3 (eLst aNil)) (sSeq (sFor (iR (eV 1)) (.n 4)
    (sSeq (sAsgF 5 (eC (.int 0))) (sSeq (sIf (tC cGt (eF fLen (aCons (eV 2) aNil)) (eC (.int 0)))
    (sSeq (sAsgF 6 (eB oMod (eF fInt (aCons (eV 4) aNil)) (eF fLen (aCons (eV 2) aNil)))) (sIf (tC cGe (eB oIx (eV 2) (eV 6)) (eB oPow (eC (.int 10)) (eC (.int 18))))
    (sSeq (sAsgF 5 (eB oMod (eF fInt (aCons (eB oIx (eV 2) (eV 6)) aNil)) (eC (.int 1000)))) (sStL 2 (eV 6) (eB oDiv (eB oIx (eV 2) (eV 6)) (eC (.int 1000)))))
    (sSeq (sAsgF 7 (eB oMod (eF fInt (aCons (eB oAdd (eB oAdd (eB oMul (eB oIx (eV 2) (eV 6)) (eC (.int 48271))) (eB oMul (eV 4) (eC (.int 69621)))) (eC (.int 11))) aNil)) (eC (.int 2147483647)))) (sSeq (sAsgF 7 (eB oMod (eF fInt (aCons (eB oAdd (eB oMul (eV 7) (eC (.int 16807))) (eV 6)) aNil)) (eC (.int 2147483629)))) (sAsgF 5 (eB oMod (eF fInt (aCons (eB oDiv (eV 7) (eC (.int 7))) aNil)) (eC (.int 1000))))))))
    sNil) (sApp 3 (eV 5))))) (sRet (eV 3)))))
def s_law_draws : List D → Option D := runDef 2 9 b_law_draws
def b_law_sky : SE :=
  (sSeq (sAsg (.n 2) (eB oAdd (eC (.int 1)) (eB oMod (eF fInt (aCons (eB oIx (eV 0) (eC (.int 0))) aNil)) (eC (.int 4))))) (sSeq (sAsg (.n 4) (eLc (iR (eV 2)) (.n 3) tTrue (eB oMod (eF fInt (aCons (eB oIx (eV 0) (eB oAdd (eC (.int 1)) (eV 3))) aNil)) (eC (.int 10))))) (sSeq (sNew 5 (eLst aNil)) (sSeq (sAsg (.n 6) (eC (.int 0))) (sSeq (sFor (iR (eB oMod (eF fInt (aCons (eB oIx (eV 0) (eC (.int 9))) aNil)) (eC (.int 3)))) (.n 3)
    (sSeq (sAsg (.n 7) (eB oAdd (eV 6) (eB oMod (eF fInt (aCons (eB oIx (eV 0) (eB oAdd (eC (.int 10)) (eB oMul (eC (.int 3)) (eV 3)))) aNil)) (eC (.int 6))))) (sSeq (sAsg (.n 6) (eB oAdd (eB oAdd (eV 7) (eC (.int 1))) (eB oMod (eF fInt (aCons (eB oIx (eV 0) (eB oAdd (eC (.int 11)) (eB oMul (eC (.int 3)) (eV 3)))) aNil)) (eC (.int 5))))) (sApp 5 (eTup (aCons (eV 7) (aCons (eV 6) (aCons (eB oAdd (eC (.int 1)) (eB oMod (eF fInt (aCons (eB oIx (eV 0) (eB oAdd (eC (.int 12)) (eB oMul (eC (.int 3)) (eV 3)))) aNil)) (eC (.int 3)))) aNil)))))))) (sSeq (sNew 8 (eLst aNil)) (sSeq (sAsg (.n 9) (eC (.int 0))) (sSeq (sFor (iR (eB oMod (eF fInt (aCons (eB oIx (eV 0) (eC (.int 16))) aNil)) (eB oAdd (eV 1) (eC (.int 1))))) (.n 3)
    (sSeq (sAsg (.n 9) (eB oAdd (eV 9) (eB oMod (eF fInt (aCons (eB oIx (eV 0) (eB oAdd (eC (.int 20)) (eB oMul (eC (.int 5)) (eV 3)))) aNil)) (eC (.int 4))))) (sSeq (sAsg (.n 10) (eB oSub (eB oMod (eF fInt (aCons (eB oIx (eV 0) (eB oAdd (eC (.int 23)) (eB oMul (eC (.int 5)) (eV 3)))) aNil)) (eC (.int 61))) (eC (.int 30)))) (sApp 8 (eTup (aCons (eB oMod (eF fInt (aCons (eB oIx (eV 0) (eB oAdd (eC (.int 21)) (eB oMul (eC (.int 5)) (eV 3)))) aNil)) (eV 2)) (aCons (eV 9) (aCons (eB oAdd (eC (.int 1)) (eB oMod (eF fInt (aCons (eB oIx (eV 0) (eB oAdd (eC (.int 22)) (eB oMul (eC (.int 5)) (eV 3)))) aNil)) (eC (.int 3)))) (aCons (eV 10) (aCons (eB oAdd (eC (.int 1)) (eB oMod (eF fInt (aCons (eB oIx (eV 0) (eB oAdd (eC (.int 24)) (eB oMul (eC (.int 5)) (eV 3)))) aNil)) (eC (.int 4)))) aNil)))))))))) (sRet (eTup (aCons (eV 8) (aCons (eV 4) (aCons (eV 5) (aCons (eB oAdd (eC (.int 2)) (eB oMod (eF fInt (aCons (eB oIx (eV 0) (eC (.int 7))) aNil)) (eC (.int 7)))) (aCons (eB oAdd (eC (.int 1)) (eB oMod (eF fInt (aCons (eB oIx (eV 0) (eC (.int 8))) aNil)) (eC (.int 30)))) aNil)))))))))))))))
def s_law_sky : List D → Option D := runDef 2 11 b_law_sky
def b_law_turn : SE :=
  (sSeq (sAsg (.n 3) (eC (.int 0))) (sSeq (sFor (iR (eC (.int 200))) (.n 4)
    (sSeq (sIf (tC cGe (eB oMul (eV 3) (eB oIx (eV 0) (eC (.int 4)))) (eF fAbs (aCons (eB oSub (eB oIx (eB oIx (eB oIx (eV 0) (eC (.int 0))) (eV 2)) (eC (.int 3))) (eB oIx (eB oIx (eB oIx (eV 0) (eC (.int 0))) (eV 1)) (eC (.int 3)))) aNil)))
    sBrk
    sNil) (sAsg (.n 3) (eB oAdd (eV 3) (eC (.int 1)))))) (sRet (eV 3))))
def s_law_turn : List D → Option D := runDef 3 5 b_law_turn
def b_law_store : SE :=
  (sSeq (sAsg (.n 3) (eC (.int 0))) (sSeq (sFor (iR (eB oAdd (eV 2) (eC (.int 1)))) (.n 4)
    (sSeq (sFor (iL (eB oIx (eV 0) (eC (.int 2)))) (.t [5, 6, 7])
    (sIf (tCh cLe cLt (eV 5) (eB oSub (eV 4) (eC (.int 1))) (eV 6))
    (sAsg (.n 3) (eF fMax2 (aCons (eC (.int 0)) (aCons (eB oSub (eV 3) (eV 7)) aNil))))
    sNil)) (sFor (iL (eV 1)) (.n 8)
    (sSeq (sAsg (.t [9, 10, 11, 12, 13]) (eB oIx (eB oIx (eV 0) (eC (.int 0))) (eV 8))) (sIf (tC cEq (eB oAdd (eV 10) (eV 11)) (eV 4))
    (sAsg (.n 3) (eB oAdd (eV 3) (eV 13)))
    sNil))))) (sRet (eV 3))))
def s_law_store : List D → Option D := runDef 3 14 b_law_store
def b_law_more_ears : SE :=
  (sSeq (sIf (tC cEq (eB oMod (eF fInt (aCons (eB oIx (eV 1) (eC (.int 0))) aNil)) (eC (.int 2))) (eC (.int 0)))
    (sRet (eV 0))
    sNil) (sSeq (sAsg (.n 2) (eB oAdd (eF fMax (aCons (eB oCatL (eLst (aCons (eC (.int 0)) aNil)) (eLc (iL (eB oIx (eV 0) (eC (.int 2)))) (.n 3) tTrue (eB oIx (eV 3) (eC (.int 1))))) aNil)) (eB oMod (eF fInt (aCons (eB oIx (eV 1) (eC (.int 1))) aNil)) (eC (.int 5))))) (sRet (eTup (aCons (eB oIx (eV 0) (eC (.int 0))) (aCons (eB oIx (eV 0) (eC (.int 1))) (aCons (eB oCatL (eB oIx (eV 0) (eC (.int 2))) (eLst (aCons (eTup (aCons (eV 2) (aCons (eB oAdd (eB oAdd (eV 2) (eC (.int 1))) (eB oMod (eF fInt (aCons (eB oIx (eV 1) (eC (.int 2))) aNil)) (eC (.int 4)))) (aCons (eB oAdd (eC (.int 1)) (eB oMod (eF fInt (aCons (eB oIx (eV 1) (eC (.int 3))) aNil)) (eC (.int 4)))) aNil)))) aNil))) (aCons (eB oIx (eV 0) (eC (.int 3))) (aCons (eB oIx (eV 0) (eC (.int 4))) aNil)))))))))
def s_law_more_ears : List D → Option D := runDef 2 4 b_law_more_ears
def b_law_without : SE :=
  (sRet (eTup (aCons (eB oIx (eV 0) (eC (.int 0))) (aCons (eB oIx (eV 0) (eC (.int 1))) (aCons (eLc (iR (eF fLen (aCons (eB oIx (eV 0) (eC (.int 2))) aNil))) (.n 2) (tC cNi (eV 2) (eV 1)) (eB oIx (eB oIx (eV 0) (eC (.int 2))) (eV 2))) (aCons (eB oIx (eV 0) (eC (.int 3))) (aCons (eB oIx (eV 0) (eC (.int 4))) aNil)))))))
def s_law_without : List D → Option D := runDef 2 3 b_law_without
def b_law_may : SE :=
  (sSeq (sAsg (.t [4, 5, 6, 7, 8]) (eB oIx (eB oIx (eV 0) (eC (.int 0))) (eV 2))) (sSeq (sIf (tC cIn (eV 4) (eLc (iL (eV 1)) (.n 10) tTrue (eB oIx (eB oIx (eB oIx (eV 0) (eC (.int 0))) (eV 10)) (eC (.int 0)))))
    (sRet (eC (.bool false)))
    sNil) (sSeq (sIf (tC cGt (eF fLen (aCons (eV 1) aNil)) (eC (.int 0)))
    (sSeq (sAsg (.n 9) (eB oIx (eB oIx (eV 0) (eC (.int 0))) (eB oIx (eV 1) (eU oNeg (eC (.int 1)))))) (sIf (tC cLt (eV 5) (eB oAdd (eB oAdd (eB oIx (eV 9) (eC (.int 1))) (eB oIx (eV 9) (eC (.int 2)))) (eF s_law_turn (aCons (eV 0) (aCons (eB oIx (eV 1) (eU oNeg (eC (.int 1)))) (aCons (eV 2) aNil))))))
    (sRet (eC (.bool false)))
    sNil))
    sNil) (sRet (eT (tC cLe (eB oAdd (eF s_law_store (aCons (eF s_law_without (aCons (eV 0) (aCons (eV 3) aNil))) (aCons (eV 1) (aCons (eV 5) aNil)))) (eV 8)) (eB oIx (eV 0) (eC (.int 3)))))))))
def s_law_may : List D → Option D := runDef 4 11 b_law_may
def b_law_state : SE :=
  (sSeq (sAsg (.n 4) (eB oCatL (eLst (aCons (eU oNeg (eC (.int 1))) aNil)) (eV 1))) (sSeq (sAsg (.n 5) (eF fTuple (aCons (eF (fSorted srt) (aCons (eLc (iL (eV 1)) (.n 6) tTrue (eB oIx (eB oIx (eB oIx (eV 0) (eC (.int 0))) (eV 6)) (eC (.int 0)))) aNil)) aNil))) (sRet (eTup (aCons (eV 2) (aCons (eB oIx (eV 4) (eU oNeg (eC (.int 1)))) (aCons (eF s_law_store (aCons (eF s_law_without (aCons (eV 0) (aCons (eV 3) aNil))) (aCons (eV 1) (aCons (eB oIx (eB oIx (eB oIx (eV 0) (eC (.int 0))) (eV 2)) (eC (.int 1))) aNil)))) (aCons (eV 5) (aCons (eV 3) aNil)))))))))
def s_law_state : List D → Option D := runDef 4 7 (b_law_state srt)
def b_law_fates : SE :=
  (sSeq (sAsg (.n 4) (eU oNeg (eC (.int 1)))) (sSeq (sIf (tC cGt (eV 1) (eC (.int 0)))
    (sAsg (.n 4) (eB oIx (eB oIx (eB oIx (eV 0) (eC (.int 0))) (eB oSub (eV 1) (eC (.int 1)))) (eC (.int 1))))
    sNil) (sSeq (sAsg (.n 5) (eLst (aCons (eV 2) aNil))) (sSeq (sFor (iR (eF fLen (aCons (eB oIx (eV 0) (eC (.int 2))) aNil))) (.n 6)
    (sIf (tCh cLt cLe (eV 4) (eB oIx (eB oIx (eB oIx (eV 0) (eC (.int 2))) (eV 6)) (eC (.int 0))) (eB oIx (eB oIx (eB oIx (eV 0) (eC (.int 0))) (eV 1)) (eC (.int 1))))
    (sAsg (.n 5) (eB oCatL (eV 5) (eLc (iL (eV 5)) (.n 7) tTrue (eB oCatT (eV 7) (eTup (aCons (eV 6) aNil))))))
    sNil)) (sRet (eLc (iL (eV 5)) (.n 7) (tC cLe (eF fLen (aCons (eV 7) aNil)) (eV 3)) (eV 7)))))))
def s_law_fates : List D → Option D := runDef 4 8 b_law_fates
def b_law_worst (fS : List D → Option D) : SE :=
  (sSeq (sIf (tC cEq (eB oAdd (eV 2) (eC (.int 1))) (eF fLen (aCons (eB oIx (eV 0) (eC (.int 0))) aNil)))
    (sRet (eC (.int 0)))
    sNil) (sRet (eF fMin (aCons (eLc (iL (eF s_law_fates (aCons (eV 0) (aCons (eB oAdd (eV 2) (eC (.int 1))) (aCons (eV 3) (aCons (eV 4) aNil)))))) (.n 5) tTrue (eF fS (aCons (eV 0) (aCons (eV 1) (aCons (eB oAdd (eV 2) (eC (.int 1))) (aCons (eV 5) (aCons (eV 4) aNil))))))) aNil))))
def b_law_sure (fW : List D → Option D) : SE :=
  (sSeq (sAsg (.n 5) (eF fW (aCons (eV 0) (aCons (eV 1) (aCons (eV 2) (aCons (eV 3) (aCons (eV 4) aNil))))))) (sSeq (sIf (tTr (eF s_law_may (aCons (eV 0) (aCons (eV 1) (aCons (eV 2) (aCons (eV 3) aNil))))))
    (sAsg (.n 5) (eF fMax2 (aCons (eV 5) (aCons (eB oAdd (eB oIx (eB oIx (eV 0) (eC (.int 1))) (eB oIx (eB oIx (eB oIx (eV 0) (eC (.int 0))) (eV 2)) (eC (.int 0)))) (eF fW (aCons (eV 0) (aCons (eB oCatL (eV 1) (eLst (aCons (eV 2) aNil))) (aCons (eV 2) (aCons (eV 3) (aCons (eV 4) aNil))))))) aNil))))
    sNil) (sRet (eV 5))))
/-- worst and sure, to a depth -/
def s_pair : Nat → (List D → Option D) × (List D → Option D)
  | 0 => (fun _ => none, fun _ => none)
  | n + 1 => (runDef 5 6 (b_law_worst (s_pair n).2), runDef 5 6 (b_law_sure (s_pair n).1))
def s_law_worst (n : Nat) : List D → Option D := (s_pair n).1
def s_law_sure (n : Nat) : List D → Option D := (s_pair n).2
def b_law_sure_worth : SE :=
  (sSeq (sIf (tC cEq (eF fLen (aCons (eB oIx (eV 0) (eC (.int 0))) aNil)) (eC (.int 0)))
    (sRet (eC (.int 0)))
    sNil) (sRet (eF fMin (aCons (eLc (iL (eF s_law_fates (aCons (eV 0) (aCons (eC (.int 0)) (aCons (eTup aNil) (aCons (eV 1) aNil)))))) (.n 2) tTrue (eF (s_law_sure 16) (aCons (eV 0) (aCons (eLst aNil) (aCons (eC (.int 0)) (aCons (eV 2) (aCons (eV 1) aNil))))))) aNil))))
def s_law_sure_worth : List D → Option D := runDef 2 3 b_law_sure_worth
def b_law_failings : SE :=
  (sSeq (sAsg (.n 2) (eLst (aCons (eTup aNil) aNil))) (sSeq (sFor (iR (eF fLen (aCons (eB oIx (eV 0) (eC (.int 2))) aNil))) (.n 3)
    (sAsg (.n 2) (eB oCatL (eV 2) (eLc (iL (eV 2)) (.n 4) tTrue (eB oCatT (eV 4) (eTup (aCons (eV 3) aNil))))))) (sRet (eF (fSorted srt) (aCons (eLc (iL (eV 2)) (.n 4) (tC cLe (eF fLen (aCons (eV 4) aNil)) (eV 1)) (eV 4)) aNil)))))
def s_law_failings : List D → Option D := runDef 2 5 (b_law_failings srt)
def b_law_taken : SE :=
  (sSeq (sAsg (.n 3) (eLst aNil)) (sSeq (sFor (iR (eF fLen (aCons (eB oIx (eV 0) (eC (.int 0))) aNil))) (.n 4)
    (sSeq (sAsg (.n 5) (eF fTuple (aCons (eLc (iT (eV 2)) (.n 10) (tC cLe (eB oIx (eB oIx (eB oIx (eV 0) (eC (.int 2))) (eV 10)) (eC (.int 0))) (eB oIx (eB oIx (eB oIx (eV 0) (eC (.int 0))) (eV 4)) (eC (.int 1)))) (eV 10)) aNil))) (sSeq (sAsg (.n 6) (eF (s_law_state srt) (aCons (eV 0) (aCons (eV 3) (aCons (eV 4) (aCons (eV 5) aNil)))))) (sSeq (sAsg (.n 7) (eLc (iL (eV 1)) (.t [8, 9]) (tC cEq (eV 8) (eV 6)) (eV 9))) (sIf (tAnd (tC cEq (eCut (eV 7) oNo (oSome (eC (.int 1)))) (eLst (aCons (eC (.str "take")) aNil))) (tTr (eF s_law_may (aCons (eV 0) (aCons (eV 3) (aCons (eV 4) (aCons (eV 5) aNil)))))))
    (sAsg (.n 3) (eB oCatL (eV 3) (eLst (aCons (eV 4) aNil))))
    sNil))))) (sRet (eV 3))))
def s_law_taken : List D → Option D := runDef 3 11 (b_law_taken srt)
def b_law : SE :=
  (sSeq (sAsg (.n 1) (eF s_law_draws (aCons (eV 0) (aCons (eC (.int 90)) aNil)))) (sSeq (sAsg (.n 2) (eF s_law_more_ears (aCons (eF s_law_sky (aCons (eV 1) (aCons (eC (.int 5)) aNil))) (aCons (eCut (eV 1) (oSome (eC (.int 50))) (oSome (eC (.int 54)))) aNil)))) (sSeq (sAsg (.n 3) (eB oMod (eF fInt (aCons (eB oIx (eV 1) (eC (.int 54))) aNil)) (eC (.int 4)))) (sSeq (sAsg (.n 4) (eF s_law_sure_worth (aCons (eV 2) (aCons (eV 3) aNil)))) (sSeq (sPar 5 6 (eF (s_sure_table srt) (aApp (aCons (eV 2) aNil) (aCons (eV 3) aNil))) (eF (s_sure_rule srt) (aApp (aCons (eV 2) aNil) (aCons (eV 3) aNil)))) (sSeq (sAsg (.n 7) (eF fDict (aCons (eV 5) aNil))) (sSeq (sNew 8 (eLst aNil)) (sSeq (sFor (iL (eF (s_law_failings srt) (aCons (eV 2) (aCons (eV 3) aNil)))) (.n 9)
    (sSeq (sAsg (.n 10) (eF (s_law_taken srt) (aCons (eV 2) (aCons (eV 6) (aCons (eV 9) aNil))))) (sFor (iR (eF fLen (aCons (eB oIx (eV 2) (eC (.int 0))) aNil))) (.n 11)
    (sSeq (sAsg (.n 13) (eF fTuple (aCons (eLc (iT (eV 9)) (.n 12) (tC cLe (eB oIx (eB oIx (eB oIx (eV 2) (eC (.int 2))) (eV 12)) (eC (.int 0))) (eB oIx (eB oIx (eB oIx (eV 2) (eC (.int 0))) (eV 11)) (eC (.int 1)))) (eV 12)) aNil))) (sSeq (sAsg (.n 14) (eF (s_law_state srt) (aCons (eV 2) (aCons (eLc (iL (eV 10)) (.n 22) (tC cLt (eV 22) (eV 11)) (eV 22)) (aCons (eV 11) (aCons (eV 13) aNil)))))) (sIf (tC cNiD (eV 14) (eV 8))
    (sApp 8 (eV 14))
    sNil)))))) (sSeq (sIf (tC cNotTrue (eF (s_is_sure_lower srt) (aApp (aCons (eV 2) (aCons (eLc (iL (eV 8)) (.n 14) tTrue (eTup (aCons (eV 14) (aCons (eB oGet (eV 7) (eV 14)) aNil)))) aNil)) (aCons (eV 3) aNil))) (eC (.bool true)))
    (sRet (eC (.bool false)))
    sNil) (sSeq (sIf (tC cNe (eF fMinD (aCons (eLc (iL (eV 8)) (.n 14) (tC cEq (eB oIx (eV 14) (eC (.int 0))) (eC (.int 0))) (eB oGet (eV 7) (eV 14))) (aCons (eC (.int 0)) aNil))) (eV 4))
    (sRet (eC (.bool false)))
    sNil) (sSeq (sFor (iR (eC (.int 4))) (.n 15)
    (sSeq (sAsg (.n 16) (eB oIx (eLst (aCons (eC (.int 1)) (aCons (eC (.int 1)) (aCons (eC (.int 3)) (aCons (eC (.int 12)) aNil))))) (eV 15))) (sSeq (sNew 17 (eLst aNil)) (sSeq (sFor (iR (eF fLen (aCons (eV 5) aNil))) (.n 12)
    (sSeq (sAsg (.n 18) (eB oSub (eB oMod (eF fInt (aCons (eB oIx (eV 1) (eB oAdd (eC (.int 55)) (eB oMod (eF fInt (aCons (eB oAdd (eV 12) (eB oMul (eC (.int 3)) (eV 15))) aNil)) (eC (.int 30))))) aNil)) (eB oAdd (eV 16) (eC (.int 1)))) (eB oIx (eLst (aCons (eC (.int 0)) (aCons (eV 16) (aCons (eC (.int 1)) (aCons (eC (.int 6)) aNil))))) (eV 15)))) (sApp 17 (eTup (aCons (eB oIx (eB oIx (eV 5) (eV 12)) (eC (.int 0))) (aCons (eB oAdd (eB oIx (eB oIx (eV 5) (eV 12)) (eC (.int 1))) (eV 18)) aNil)))))) (sSeq (sFz 17) (sSeq (sAsg (.n 19) (eLc (iL (eV 17)) (.t [14, 21]) (tC cEq (eB oIx (eV 14) (eC (.int 0))) (eC (.int 0))) (eV 21))) (sSeq (sAsg (.n 20) (eF fMinD (aCons (eV 19) (aCons (eC (.int 0)) aNil)))) (sIf (tOr (tAnd (tTr (eF (s_is_sure_lower srt) (aApp (aCons (eV 2) (aCons (eV 17) aNil)) (aCons (eV 3) aNil)))) (tC cGt (eV 20) (eV 4))) (tAnd (tTr (eF (s_is_sure_upper srt) (aApp (aCons (eV 2) (aCons (eV 17) aNil)) (aCons (eV 3) aNil)))) (tC cLt (eV 20) (eV 4))))
    (sRet (eC (.bool false)))
    sNil)))))))) (sRet (eC (.bool true))))))))))))))
def s_law : List D → Option D := runDef 1 23 (b_law srt)
end
end Sk
/-! SkProg1 (printed by gen.py): each def keeps its promise -/
namespace Sk
open PySem PySem.Spec PyProof.Rows L2
def topS (i : Nat) : Stmt := PySem.Challenge.pw_skypasses_k41_whole_lists_are_bounds.main.body.getD i (.Pass ⟨0, 0, 0, 0⟩)
/-- the built-ins stand as they are -/
structure Bi (mg : Str → Option Value) : Prop where
  len_ : mg "len" = none
  abs_ : mg "abs" = none
  int_ : mg "int" = none
  max_ : mg "max" = none
  min_ : mg "min" = none
  all_ : mg "all" = none
  any_ : mg "any" = none
  list_ : mg "list" = none
  tuple_ : mg "tuple" = none
  dict_ : mg "dict" = none
  sorted_ : mg "sorted" = none
  range_ : mg "range" = none
  reversed_ : mg "reversed" = none
/-- a def that is called by place -/
structure DefU (P : Program) (w : World) (K : PySem.W.Frag) (mg : Str → Option Value) (base : Heap) (k : Nat) (x : Str) (ps : List Str) (fr : Bool) (F : List D → Option D) : Prop where
  ex : ∃ f fd, FnOk P w K mg base CX0 k f fd ps (spD ⟨K, P, w⟩ fr F) ∧ mg x = some (.ref f) ∧ PySem.W.keepIn K (.ref f) = true ∧ Binds K fd ps []
/-- a def that is called by place and by keywords -/
structure DefUK (P : Program) (w : World) (K : PySem.W.Frag) (mg : Str → Option Value) (base : Heap) (k : Nat) (x : Str) (n : Nat) (ks ps : List Str) (fr : Bool) (F : List D → Option D) : Prop where
  ex : ∃ f fd, FnOk P w K mg base CX0 k f fd ps (spD ⟨K, P, w⟩ fr F) ∧ mg x = some (.ref f) ∧ PySem.W.keepIn K (.ref f) = true ∧ KBn K fd ps n ks (fun us ws => us ++ ws) (fun vs zs => vs ++ zs)
theorem units65 {k : Nat} {A : Around} (r : Room k A) : A.units + 65 < cLine := by have := r.un; omega
section
variable {X : Cx} {e : Expr} {es : List Expr} {ga gb : FA} {pos : Pos}
theorem d_callU {fr : Bool} {k : Nat} {ps : List Str} {F : List D → Option D} {x : Str} {p : Pos} (h : DefU X.prog X.w X.K X.mg X.base k x ps fr F) (hr : Room k X.A) (hg : Gl X x) (ha : PAD X (e :: es) ga) (hdb : (x == ("__debug__" : Str)) = false := by decide)
    (he : starEach (e :: es) X.env = (false, eval e X.env) :: starEach es X.env := by rfl) (hpl : (backTo pos (starEach es X.env)).any (·.1) = false := by rfl) : PED X fr (.Call (.Name x p) (e :: es) [] pos) (eF F ga) := by
  obtain ⟨f, fd, G, hm, hk, hb⟩ := h.ex
  exact d_call G hr hg hm hk hb ha hdb he hpl
theorem d_callUK {fr : Bool} {k n : Nat} {ps ks : List Str} {F : List D → Option D} {x : Str} {p : Pos} {kws : List Keyword} (h : DefUK X.prog X.w X.K X.mg X.base k x n ks ps fr F) (hr : Room k X.A) (hg : Gl X x) (ha : PAD X (e :: es) ga) (hkw : PKD X kws gb)
    (l1 : ∀ r xs, ga r = some xs → xs.length = n) (l2 : ∀ r xs, gb r = some xs → xs.length = ks.length) (hall : (backToKw pos (keywordEach kws X.env)).all (·.1.isSome) = true := by rfl) (hks : (backToKw pos (keywordEach kws X.env)).filterMap (·.1) = ks := by rfl)
    (hdb : (x == ("__debug__" : Str)) = false := by decide) (he : starEach (e :: es) X.env = (false, eval e X.env) :: starEach es X.env := by rfl)
    (hpl : ((backTo pos (starEach (e :: es) X.env)).any (·.1) || (backToKw pos (keywordEach kws X.env)).any (·.1.isNone)) = false := by rfl) : PED X fr (.Call (.Name x p) (e :: es) kws pos) (eF F (aApp ga gb)) := by
  obtain ⟨f, fd, G, hm, hk, hb⟩ := h.ex
  exact d_callK G hr hg hm hk hb ha hkw l1 l2 hall hks hdb he hpl
end
section
variable {P : Program} {w : World} {K : PySem.W.Frag} {mg : Str → Option Value} {base : Heap} {f : Addr} {fd : FuncData}
theorem sc_end_of : FnScope ["sky", "look", "wish", "start", "length", "angle", "size"] ["sky", "look"] (defScope (topS 1)) := ⟨rfl, rfl, rfl, by decide +kernel, rfl, by decide +kernel, by decide +kernel⟩
theorem ok_end_of (F : Fun K "end_of" "end_of" (topS 1) f fd) (bi : Bi mg)  : FnOk P w K mg base CX0 1 f fd ["sky", "look"] (spD ⟨K, P, w⟩ false s_end_of) := by
  have sc := sc_end_of
  refine def_ok (k := 0) F sc (by decide) (fun cdv A outer s H E hr => ?_)
  have hu := hr.units
  have hu65 := units65 hr
  exact (ss_cons (s_asg (d_ix ix_seq od_ixL (d_ix ix_seq od_ixL (d_var 0) d_int (fun _ _ => rfl)) (d_var 1) (fun _ _ => rfl)) (g_t rfl (gs_cons (g_n (i := 2) sc.nd rfl (.inl rfl)) (gs_cons (g_n (i := 3) sc.nd rfl (.inl rfl)) (gs_cons (g_n (i := 4) sc.nd rfl (.inl rfl)) (gs_cons (g_n (i := 5) sc.nd rfl (.inl rfl)) (gs_cons (g_n (i := 6) sc.nd rfl (.inl rfl)) gs_nil)))))))
    (ss_one (s_ret (d_op op_add od_add (d_var 3) (d_var 4)))))
theorem sc_turning : FnScope ["sky", "first", "second"] ["sky", "first", "second"] (defScope (topS 2)) := ⟨rfl, rfl, rfl, by decide +kernel, rfl, by decide +kernel, by decide +kernel⟩
theorem ok_turning (F : Fun K "turning" "turning" (topS 2) f fd) (bi : Bi mg)  : FnOk P w K mg base CX0 1 f fd ["sky", "first", "second"] (spD ⟨K, P, w⟩ false s_turning) := by
  have sc := sc_turning
  refine def_ok (k := 0) F sc (by decide) (fun cdv A outer s H E hr => ?_)
  have hu := hr.units
  have hu65 := units65 hr
  exact (ss_one (s_ret (d_neg (d_op op_fdiv od_div (d_neg (d_callB call_abs ld_abs (by rfl) bi.abs_ (by decide +kernel) (a_cons (d_op op_sub od_sub (d_ix ix_seq od_ixL (d_ix ix_seq od_ixL (d_ix ix_seq od_ixL (d_var 0) d_int (fun _ _ => rfl)) (d_var 2) (fun _ _ => rfl)) d_int (fun _ _ => rfl)) (d_ix ix_seq od_ixL (d_ix ix_seq od_ixL (d_ix ix_seq od_ixL (d_var 0) d_int (fun _ _ => rfl)) (d_var 1) (fun _ _ => rfl)) d_int (fun _ _ => rfl))) a_nil))) (d_ix ix_seq od_ixL (d_var 0) d_int (fun _ _ => rfl))))))
theorem sc_loss : FnScope ["ears", "since", "until", "found", "first", "last", "rate"] ["ears", "since", "until"] (defScope (topS 3)) := ⟨rfl, rfl, rfl, by decide +kernel, rfl, by decide +kernel, by decide +kernel⟩
theorem ok_loss (F : Fun K "loss" "loss" (topS 3) f fd) (bi : Bi mg)  : FnOk P w K mg base CX0 1 f fd ["ears", "since", "until"] (spD ⟨K, P, w⟩ false s_loss) := by
  have sc := sc_loss
  refine def_ok (k := 0) F sc (by decide) (fun cdv A outer s H E hr => ?_)
  have hu := hr.units
  have hu65 := units65 hr
  exact (ss_cons (s_set (i := 3) sc.nd rfl (.inl rfl) d_int)
    (ss_cons (s_for PassesOwn.never rfl (i_L (d_var 0)) (g_t rfl (gs_cons (g_n (i := 4) sc.nd rfl (.inl rfl)) (gs_cons (g_n (i := 5) sc.nd rfl (.inl rfl)) (gs_cons (g_n (i := 6) sc.nd rfl (.inl rfl)) gs_nil))))
    (ss_one (s_aug (i := 3) sc.nd rfl (.inl rfl) (d_op op_mul od_mul (d_var 6) (d_callB (call_max2 rfl) ld_max2 (by rfl) bi.max_ (by decide +kernel) (a_cons d_int (a_cons (d_op op_sub od_sub (d_callB (call_min2 rfl) ld_min2 (by rfl) bi.min_ (by decide +kernel) (a_cons (d_var 2) (a_cons (d_var 5) a_nil))) (d_callB (call_max2 rfl) ld_max2 (by rfl) bi.max_ (by decide +kernel) (a_cons (d_var 1) (a_cons (d_var 4) a_nil)))) a_nil)))))))
    (ss_one (s_ret (d_var 3)))))
theorem sc_emptied : FnScope ["sky", "amount", "since", "until"] ["sky", "amount", "since", "until"] (defScope (topS 4)) := ⟨rfl, rfl, rfl, by decide +kernel, rfl, by decide +kernel, by decide +kernel⟩
theorem ok_emptied (F : Fun K "emptied" "emptied" (topS 4) f fd) (bi : Bi mg) (h_loss : DefU P w K mg base 1 "loss" ["ears", "since", "until"] false s_loss) : FnOk P w K mg base CX0 2 f fd ["sky", "amount", "since", "until"] (spD ⟨K, P, w⟩ false s_emptied) := by
  have sc := sc_emptied
  refine def_ok (k := 1) F sc (by decide) (fun cdv A outer s H E hr => ?_)
  have hu := hr.units
  have hu65 := units65 hr
  exact (ss_one (s_ret (d_callB (call_max2 rfl) ld_max2 (by rfl) bi.max_ (by decide +kernel) (a_cons d_int (a_cons (d_op op_sub od_sub (d_var 1) (d_callU h_loss (hr.mono (by first | decide | omega)) (by rfl) (a_cons (d_ix ix_seq od_ixL (d_var 0) d_int (fun _ _ => rfl)) (a_cons (d_var 2) (a_cons (d_var 3) a_nil))))) a_nil)))))
theorem sc_without_ears : FnScope ["sky", "names", "looks", "worths", "ears", "capacity", "turn", "left", "name"] ["sky", "names"] (defScope (topS 6)) := ⟨rfl, rfl, rfl, by decide +kernel, rfl, by decide +kernel, by decide +kernel⟩
theorem ok_without_ears (F : Fun K "without_ears" "without_ears" (topS 6) f fd) (bi : Bi mg)  : FnOk P w K mg base CX0 1 f fd ["sky", "names"] (spD ⟨K, P, w⟩ false s_without_ears) := by
  have sc := sc_without_ears
  refine def_ok (k := 0) F sc (by decide) (fun cdv A outer s H E hr => ?_)
  have hu := hr.units
  have hu65 := units65 hr
  exact (ss_cons (s_asg (d_var 0) (g_t rfl (gs_cons (g_n (i := 2) sc.nd rfl (.inl rfl)) (gs_cons (g_n (i := 3) sc.nd rfl (.inl rfl)) (gs_cons (g_n (i := 4) sc.nd rfl (.inr rfl)) (gs_cons (g_n (i := 5) sc.nd rfl (.inl rfl)) (gs_cons (g_n (i := 6) sc.nd rfl (.inl rfl)) gs_nil)))))))
    (ss_cons (s_setLc (i := 7) rfl sc.nd rfl rfl (sw_true rfl rfl rfl (by decide +kernel)) (i_R (by rfl) bi.range_ (d_callB call_len_seq ld_len (by rfl) bi.len_ (by decide +kernel) (a_cons (d_var 4) a_nil))) (blkOk_by (N := ["sky", "names", "looks", "worths", "ears", "capacity", "turn", "left", "name"]) (sc := defScope (topS 6)) (own := [("name", 8)]) (by decide +kernel)) rfl (fun _ _ _ _ _ => (g_n (i := 8) sc.nd rfl (.inl rfl))) (fun _ _ _ _ _ => (ts_one (t_cmp op_notIn_seq cd_ni (d_var 8) (d_var 1) (by rfl)))) (fun _ _ _ _ _ => (d_ix ix_seq od_ixL (d_var 4) (d_var 8) (fun _ _ => rfl))))
    (ss_one (s_ret (d_tup (a_cons (d_callTy call_list_of ld_list (by rfl) bi.list_ (by decide +kernel) (a_cons (d_var 2) a_nil)) (a_cons (d_callTy call_list_of ld_list (by rfl) bi.list_ (by decide +kernel) (a_cons (d_var 3) a_nil)) (a_cons (d_var 7) (a_cons (d_var 5) (a_cons (d_var 6) a_nil))))))))))
theorem sc_ways_of : FnScope ["names", "failed", "most", "found", "name", "one"] ["names", "failed", "most"] (defScope (topS 7)) := ⟨rfl, rfl, rfl, by decide +kernel, rfl, by decide +kernel, by decide +kernel⟩
theorem ok_ways_of (F : Fun K "ways_of" "ways_of" (topS 7) f fd) (bi : Bi mg)  : FnOk P w K mg base CX0 1 f fd ["names", "failed", "most"] (spD ⟨K, P, w⟩ false (s_ways_of Sk.srt)) := by
  have sc := sc_ways_of
  refine def_ok (k := 0) F sc (by decide) (fun cdv A outer s H E hr => ?_)
  have hu := hr.units
  have hu65 := units65 hr
  exact (ss_cons (s_set (i := 3) sc.nd rfl (.inl rfl) (d_seal (d_lst (a_cons (d_callTy call_tuple_of ld_tuple (by rfl) bi.tuple_ (by decide +kernel) (a_cons (d_var 1) a_nil)) a_nil))))
    (ss_cons (s_for PassesOwn.never rfl (i_L (d_var 0)) (g_n (i := 4) sc.nd rfl (.inr rfl))
    (ss_one (s_set (i := 3) sc.nd rfl (.inl rfl) (d_op op_catS od_catL (d_var 3) (d_seal (d_lc rfl sc.nd (i_L (d_var 3)) (blkOk_by (N := ["names", "failed", "most", "found", "name", "one"]) (sc := defScope (topS 7)) (own := [("one", 5)]) (by decide +kernel)) rfl (fun _ _ _ _ _ => (g_n (i := 5) sc.nd rfl (.inl rfl))) (fun _ _ _ _ _ => ts_nil) (fun _ _ _ _ _ => (d_op op_catA od_catT (d_var 5) (d_tup (a_cons (d_var 4) a_nil))))))))))
    (ss_one (s_ret (d_callB (cr_srt hu) ld_srt (by rfl) bi.sorted_ (by decide +kernel) (a_cons (d_seal (d_lc rfl sc.nd (i_L (d_var 3)) (blkOk_by (N := ["names", "failed", "most", "found", "name", "one"]) (sc := defScope (topS 7)) (own := [("one", 5)]) (by decide +kernel)) rfl (fun _ _ _ _ _ => (g_n (i := 5) sc.nd rfl (.inl rfl))) (fun _ _ _ _ _ => (ts_one (t_cmp op_le cd_le (d_callB call_len_seq ld_len (by rfl) bi.len_ (by decide +kernel) (a_cons (d_var 5) a_nil)) (d_var 2) (nomark _)))) (fun _ _ _ _ _ => (d_var 5)))) a_nil))))))
theorem sc_begun_between : FnScope ["sky", "since", "until", "name"] ["sky", "since", "until"] (defScope (topS 8)) := ⟨rfl, rfl, rfl, by decide +kernel, rfl, by decide +kernel, by decide +kernel⟩
theorem ok_begun_between (F : Fun K "begun_between" "begun_between" (topS 8) f fd) (bi : Bi mg)  : FnOk P w K mg base CX0 1 f fd ["sky", "since", "until"] (spD ⟨K, P, w⟩ false s_begun_between) := by
  have sc := sc_begun_between
  refine def_ok (k := 0) F sc (by decide) (fun cdv A outer s H E hr => ?_)
  have hu := hr.units
  have hu65 := units65 hr
  exact (ss_one (s_ret (d_seal (d_lc rfl sc.nd (i_R (by rfl) bi.range_ (d_callB call_len_seq ld_len (by rfl) bi.len_ (by decide +kernel) (a_cons (d_ix ix_seq od_ixL (d_var 0) d_int (fun _ _ => rfl)) a_nil))) (blkOk_by (N := ["sky", "since", "until", "name"]) (sc := defScope (topS 8)) (own := [("name", 3)]) (by decide +kernel)) rfl (fun _ _ _ _ _ => (g_n (i := 3) sc.nd rfl (.inl rfl))) (fun _ _ _ _ _ => (ts_one (t_chain op_lt op_le cd_lt cd_le (d_var 1) (d_ix ix_seq od_ixL (d_ix ix_seq od_ixL (d_ix ix_seq od_ixL (d_var 0) d_int (fun _ _ => rfl)) (d_var 3) (fun _ _ => rfl)) d_int (fun _ _ => rfl)) (d_var 2) (fun ha hb hc => pt_chain op_lt op_le ha hb hc)))) (fun _ _ _ _ _ => (d_var 3))))))
theorem sc_first_states : FnScope ["sky", "most", "names", "failed"] ["sky", "most"] (defScope (topS 9)) := ⟨rfl, rfl, rfl, by decide +kernel, rfl, by decide +kernel, by decide +kernel⟩
theorem ok_first_states (F : Fun K "first_states" "first_states" (topS 9) f fd) (bi : Bi mg) (h_begun_between : DefU P w K mg base 1 "begun_between" ["sky", "since", "until"] false s_begun_between) (h_ways_of : DefU P w K mg base 1 "ways_of" ["names", "failed", "most"] false (s_ways_of Sk.srt)) : FnOk P w K mg base CX0 2 f fd ["sky", "most"] (spD ⟨K, P, w⟩ true (s_first_states Sk.srt)) := by
  have sc := sc_first_states
  refine def_ok (k := 1) F sc (by decide) (fun cdv A outer s H E hr => ?_)
  have hu := hr.units
  have hu65 := units65 hr
  exact (ss_cons (s_if (t_not (t_tr (d_ix ix_seq od_ixL (d_var 0) d_int (fun _ _ => rfl))))
    (ss_one (s_retN (d_lst a_nil)))
    ss_nil)
    (ss_cons (s_set (i := 2) sc.nd rfl (.inl rfl) (d_callU h_begun_between (hr.mono (by first | decide | omega)) (by rfl) (a_cons (d_var 0) (a_cons (d_neg d_int) (a_cons (d_ix ix_seq od_ixL (d_ix ix_seq od_ixL (d_ix ix_seq od_ixL (d_var 0) d_int (fun _ _ => rfl)) d_int (fun _ _ => rfl)) d_int (fun _ _ => rfl)) a_nil)))))
    (ss_one (s_retN (d_lc rfl sc.nd (i_L (d_callU h_ways_of (hr.mono (by first | decide | omega)) (by rfl) (a_cons (d_var 2) (a_cons (d_tup a_nil) (a_cons (d_var 1) a_nil))))) (blkOk_by (N := ["sky", "most", "names", "failed"]) (sc := defScope (topS 9)) (own := [("failed", 3)]) (by decide +kernel)) rfl (fun _ _ _ _ _ => (g_n (i := 3) sc.nd rfl (.inl rfl))) (fun _ _ _ _ _ => ts_nil) (fun _ _ _ _ _ => (d_tup (a_cons d_int (a_cons (d_neg d_int) (a_cons d_int (a_cons (d_tup a_nil) (a_cons (d_var 3) a_nil))))))))))))
theorem sc_may_take : FnScope ["sky", "state", "look", "last", "amount", "wishes", "failed", "wish", "start", "length", "angle", "size"] ["sky", "state"] (defScope (topS 10)) := ⟨rfl, rfl, rfl, by decide +kernel, rfl, by decide +kernel, by decide +kernel⟩
theorem ok_may_take (F : Fun K "may_take" "may_take" (topS 10) f fd) (bi : Bi mg) (h_end_of : DefU P w K mg base 1 "end_of" ["sky", "look"] false s_end_of) (h_turning : DefU P w K mg base 1 "turning" ["sky", "first", "second"] false s_turning) : FnOk P w K mg base CX0 2 f fd ["sky", "state"] (spD ⟨K, P, w⟩ false s_may_take) := by
  have sc := sc_may_take
  refine def_ok (k := 1) F sc (by decide) (fun cdv A outer s H E hr => ?_)
  have hu := hr.units
  have hu65 := units65 hr
  exact (ss_cons (s_asg (d_var 1) (g_t rfl (gs_cons (g_n (i := 2) sc.nd rfl (.inl rfl)) (gs_cons (g_n (i := 3) sc.nd rfl (.inl rfl)) (gs_cons (g_n (i := 4) sc.nd rfl (.inl rfl)) (gs_cons (g_n (i := 5) sc.nd rfl (.inl rfl)) (gs_cons (g_n (i := 6) sc.nd rfl (.inl rfl)) gs_nil)))))))
    (ss_cons (s_asg (d_ix ix_seq od_ixL (d_ix ix_seq od_ixL (d_var 0) d_int (fun _ _ => rfl)) (d_var 2) (fun _ _ => rfl)) (g_t rfl (gs_cons (g_n (i := 7) sc.nd rfl (.inl rfl)) (gs_cons (g_n (i := 8) sc.nd rfl (.inl rfl)) (gs_cons (g_n (i := 9) sc.nd rfl (.inl rfl)) (gs_cons (g_n (i := 10) sc.nd rfl (.inl rfl)) (gs_cons (g_n (i := 11) sc.nd rfl (.inl rfl)) gs_nil)))))))
    (ss_cons (s_if (PW.pt (w_or (t_cmp op_in_seq cd_in (d_var 7) (d_var 5) (by rfl)) (w_or1 (t_cmp op_gt cd_gt (d_op op_add od_add (d_var 4) (d_var 11)) (d_ix ix_seq od_ixL (d_var 0) d_int (fun _ _ => rfl)) (nomark _)))))
    (ss_one (s_ret d_bool))
    ss_nil)
    (ss_one (s_ret (d_or (d_cmp op_lt cd_lt (d_var 3) d_int (nomark _)) (d_one (d_cmp op_le cd_le (d_op op_add od_add (d_callU h_end_of (hr.mono (by first | decide | omega)) (by rfl) (a_cons (d_var 0) (a_cons (d_var 3) a_nil))) (d_callU h_turning (hr.mono (by first | decide | omega)) (by rfl) (a_cons (d_var 0) (a_cons (d_var 3) (a_cons (d_var 2) a_nil))))) (d_var 8) (nomark _)))))))))
theorem sc_moves_of : FnScope ["sky", "state"] ["sky", "state"] (defScope (topS 11)) := ⟨rfl, rfl, rfl, by decide +kernel, rfl, by decide +kernel, by decide +kernel⟩
theorem ok_moves_of (F : Fun K "moves_of" "moves_of" (topS 11) f fd) (bi : Bi mg) (h_may_take : DefU P w K mg base 2 "may_take" ["sky", "state"] false s_may_take) : FnOk P w K mg base CX0 3 f fd ["sky", "state"] (spD ⟨K, P, w⟩ false s_moves_of) := by
  have sc := sc_moves_of
  refine def_ok (k := 2) F sc (by decide) (fun cdv A outer s H E hr => ?_)
  have hu := hr.units
  have hu65 := units65 hr
  exact (ss_cons (s_if (t_tr (d_callU h_may_take (hr.mono (by first | decide | omega)) (by rfl) (a_cons (d_var 0) (a_cons (d_var 1) a_nil))))
    (ss_one (s_ret (d_seal (d_lst (a_cons d_str (a_cons d_str a_nil))))))
    ss_nil)
    (ss_one (s_ret (d_seal (d_lst (a_cons d_str a_nil))))))
theorem sc_gain_of : FnScope ["sky", "state", "move"] ["sky", "state", "move"] (defScope (topS 12)) := ⟨rfl, rfl, rfl, by decide +kernel, rfl, by decide +kernel, by decide +kernel⟩
theorem ok_gain_of (F : Fun K "gain_of" "gain_of" (topS 12) f fd) (bi : Bi mg)  : FnOk P w K mg base CX0 1 f fd ["sky", "state", "move"] (spD ⟨K, P, w⟩ false s_gain_of) := by
  have sc := sc_gain_of
  refine def_ok (k := 0) F sc (by decide) (fun cdv A outer s H E hr => ?_)
  have hu := hr.units
  have hu65 := units65 hr
  exact (ss_cons (s_if (t_cmp (op_eqD hu) cd_eq (d_var 2) d_str (nomark _))
    (ss_one (s_ret (d_ix ix_seq od_ixL (d_ix ix_seq od_ixL (d_var 0) d_int (fun _ _ => rfl)) (d_ix ix_seq od_ixL (d_ix ix_seq od_ixL (d_ix ix_seq od_ixL (d_var 0) d_int (fun _ _ => rfl)) (d_ix ix_seq od_ixL (d_var 1) d_int (fun _ _ => rfl)) (fun _ _ => rfl)) d_int (fun _ _ => rfl)) (fun _ _ => rfl))))
    ss_nil)
    (ss_one (s_ret d_int)))
theorem sc_amount_behind : FnScope ["sky", "amount", "last", "since", "until", "end"] ["sky", "amount", "last", "since", "until"] (defScope (topS 13)) := ⟨rfl, rfl, rfl, by decide +kernel, rfl, by decide +kernel, by decide +kernel⟩
theorem ok_amount_behind (F : Fun K "amount_behind" "amount_behind" (topS 13) f fd) (bi : Bi mg) (h_emptied : DefUK P w K mg base 2 "emptied" 2 ["since", "until"] ["sky", "amount", "since", "until"] false s_emptied) (h_end_of : DefU P w K mg base 1 "end_of" ["sky", "look"] false s_end_of) : FnOk P w K mg base CX0 3 f fd ["sky", "amount", "last", "since", "until"] (spD ⟨K, P, w⟩ false s_amount_behind) := by
  have sc := sc_amount_behind
  refine def_ok (k := 2) F sc (by decide) (fun cdv A outer s H E hr => ?_)
  have hu := hr.units
  have hu65 := units65 hr
  exact (ss_cons (s_if (PW.pt (w_and (t_cmp op_ge cd_ge (d_var 2) d_int (nomark _)) (w_and1 (t_chain op_lt op_le cd_lt cd_le (d_var 3) (d_callU h_end_of (hr.mono (by first | decide | omega)) (by rfl) (a_cons (d_var 0) (a_cons (d_var 2) a_nil))) (d_var 4) (fun ha hb hc => pt_chain op_lt op_le ha hb hc)))))
    (ss_cons (s_set (i := 5) sc.nd rfl (.inl rfl) (d_callU h_end_of (hr.mono (by first | decide | omega)) (by rfl) (a_cons (d_var 0) (a_cons (d_var 2) a_nil))))
    (ss_cons (s_set (i := 1) sc.nd rfl (.inl rfl) (d_op op_add od_add (d_callUK h_emptied (hr.mono (by first | decide | omega)) (by rfl) (a_cons (d_var 0) (a_cons (d_var 1) a_nil)) (k_cons (d_var 3) (k_cons (d_var 5) k_nil)) (aLen (aLen aLen0)) (aLen (aLen aLen0))) (d_ix ix_seq od_ixL (d_ix ix_seq od_ixL (d_ix ix_seq od_ixL (d_var 0) d_int (fun _ _ => rfl)) (d_var 2) (fun _ _ => rfl)) d_int (fun _ _ => rfl))))
    (ss_one (s_set (i := 3) sc.nd rfl (.inl rfl) (d_var 5)))))
    ss_nil)
    (ss_one (s_ret (d_callUK h_emptied (hr.mono (by first | decide | omega)) (by rfl) (a_cons (d_var 0) (a_cons (d_var 1) a_nil)) (k_cons (d_var 3) (k_cons (d_var 4) k_nil)) (aLen (aLen aLen0)) (aLen (aLen aLen0))))))
theorem sc_states_behind : FnScope ["sky", "state", "move", "most", "look", "last", "amount", "wishes", "failed", "since", "until", "found", "fates", "there"] ["sky", "state", "move", "most"] (defScope (topS 14)) := ⟨rfl, rfl, rfl, by decide +kernel, rfl, by decide +kernel, by decide +kernel⟩
theorem ok_states_behind (F : Fun K "states_behind" "states_behind" (topS 14) f fd) (bi : Bi mg) (h_ways_of : DefU P w K mg base 1 "ways_of" ["names", "failed", "most"] false (s_ways_of Sk.srt)) (h_begun_between : DefU P w K mg base 1 "begun_between" ["sky", "since", "until"] false s_begun_between) (h_amount_behind : DefU P w K mg base 3 "amount_behind" ["sky", "amount", "last", "since", "until"] false s_amount_behind) (h_without_ears : DefU P w K mg base 1 "without_ears" ["sky", "names"] false s_without_ears) : FnOk P w K mg base CX0 4 f fd ["sky", "state", "move", "most"] (spD ⟨K, P, w⟩ false (s_states_behind Sk.srt)) := by
  have sc := sc_states_behind
  refine def_ok (k := 3) F sc (by decide) (fun cdv A outer s H E hr => ?_)
  have hu := hr.units
  have hu65 := units65 hr
  exact (ss_cons (s_asg (d_var 1) (g_t rfl (gs_cons (g_n (i := 4) sc.nd rfl (.inl rfl)) (gs_cons (g_n (i := 5) sc.nd rfl (.inl rfl)) (gs_cons (g_n (i := 6) sc.nd rfl (.inl rfl)) (gs_cons (g_n (i := 7) sc.nd rfl (.inl rfl)) (gs_cons (g_n (i := 8) sc.nd rfl (.inl rfl)) gs_nil)))))))
    (ss_cons (s_if (t_cmp (op_eqD hu) cd_eq (d_op op_add od_add (d_var 4) d_int) (d_callB call_len_seq ld_len (by rfl) bi.len_ (by decide +kernel) (a_cons (d_ix ix_seq od_ixL (d_var 0) d_int (fun _ _ => rfl)) a_nil)) (nomark _))
    (ss_one (s_ret (d_seal (d_lst a_nil))))
    ss_nil)
    (ss_cons (s_if (t_cmp (op_eqD hu) cd_eq (d_var 2) d_str (nomark _))
    (ss_cons (s_set (i := 5) sc.nd rfl (.inl rfl) (d_var 4))
    (ss_one (s_set (i := 7) sc.nd rfl (.inl rfl) (d_callTy call_tuple_of ld_tuple (by rfl) bi.tuple_ (by decide +kernel) (a_cons (d_callB (cr_srtT hu) ld_srtT (by rfl) bi.sorted_ (by decide +kernel) (a_cons (d_op op_catA od_catT (d_var 7) (d_tup (a_cons (d_ix ix_seq od_ixL (d_ix ix_seq od_ixL (d_ix ix_seq od_ixL (d_var 0) d_int (fun _ _ => rfl)) (d_var 4) (fun _ _ => rfl)) d_int (fun _ _ => rfl)) a_nil))) a_nil)) a_nil)))))
    ss_nil)
    (ss_cons (s_par (i := 9) (j := 10) rfl sc.nd rfl rfl (by decide) rfl rfl (d_ix ix_seq od_ixL (d_ix ix_seq od_ixL (d_ix ix_seq od_ixL (d_var 0) d_int (fun _ _ => rfl)) (d_var 4) (fun _ _ => rfl)) d_int (fun _ _ => rfl)) (d_ix ix_seq od_ixL (d_ix ix_seq od_ixL (d_ix ix_seq od_ixL (d_var 0) d_int (fun _ _ => rfl)) (d_op op_add od_add (d_var 4) d_int) (fun _ _ => rfl)) d_int (fun _ _ => rfl)) (by rfl))
    (ss_cons (s_new (i := 11) sc.nd rfl (.inl rfl) (d_lst a_nil))
    (ss_cons (s_for PassesOwn.never rfl (i_L (d_callU h_ways_of (hr.mono (by first | decide | omega)) (by rfl) (a_cons (d_callU h_begun_between (hr.mono (by first | decide | omega)) (by rfl) (a_cons (d_var 0) (a_cons (d_var 9) (a_cons (d_var 10) a_nil)))) (a_cons (d_var 8) (a_cons (d_var 3) a_nil))))) (g_n (i := 12) sc.nd rfl (.inl rfl))
    (ss_cons (s_set (i := 13) sc.nd rfl (.inl rfl) (d_callU h_amount_behind (hr.mono (by first | decide | omega)) (by rfl) (a_cons (d_callU h_without_ears (hr.mono (by first | decide | omega)) (by rfl) (a_cons (d_var 0) (a_cons (d_var 12) a_nil))) (a_cons (d_var 6) (a_cons (d_var 5) (a_cons (d_var 9) (a_cons (d_var 10) a_nil)))))))
    (ss_one (s_app (i := 11) rfl (by first | exact Or.inl rfl | exact Or.inr (Or.inl rfl) | exact Or.inr (Or.inr rfl)) (d_tup (a_cons (d_op op_add od_add (d_var 4) d_int) (a_cons (d_var 5) (a_cons (d_var 13) (a_cons (d_var 7) (a_cons (d_var 12) a_nil))))))))))
    (ss_one (s_ret (d_callB (cr_srt hu) ld_srt (by rfl) bi.sorted_ (by decide +kernel) (a_cons (d_var 11) a_nil))))))))))
theorem sc_reached : FnScope ["sky", "most", "waiting", "state", "found", "move", "behind"] ["sky", "most"] (defScope (topS 15)) := ⟨rfl, rfl, rfl, by decide +kernel, rfl, by decide +kernel, by decide +kernel⟩
theorem ok_reached (F : Fun K "reached" "reached" (topS 15) f fd) (bi : Bi mg) (h_first_states : DefUK P w K mg base 2 "first_states" 1 ["most"] ["sky", "most"] true (s_first_states Sk.srt)) (h_moves_of : DefU P w K mg base 3 "moves_of" ["sky", "state"] false s_moves_of) (h_states_behind : DefUK P w K mg base 4 "states_behind" 3 ["most"] ["sky", "state", "move", "most"] false (s_states_behind Sk.srt)) : FnOk P w K mg base CX0 5 f fd ["sky", "most"] (spD ⟨K, P, w⟩ false (s_reached Sk.srt)) := by
  have sc := sc_reached
  refine def_ok (k := 4) F sc (by decide) (fun cdv A outer s H E hr => ?_)
  have hu := hr.units
  have hu65 := units65 hr
  exact (ss_cons (s_new (i := 2) sc.nd rfl (.inl rfl) (d_callUK h_first_states (hr.mono (by first | decide | omega)) (by rfl) (a_cons (d_var 0) a_nil) (k_cons (d_var 1) k_nil) (aLen aLen0) (aLen aLen0)))
    (ss_cons (s_newDcA (i := 4) hu rfl sc.nd rfl rfl (sw_trueD rfl rfl rfl (by decide +kernel)) (i_L (d_var 2)) (blkOk_by (N := ["sky", "most", "waiting", "state", "found", "move", "behind"]) (sc := defScope (topS 15)) (own := [("state", 3)]) (by decide +kernel)) rfl (fun _ _ _ _ _ => (g_n (i := 3) sc.nd rfl (.inl rfl))) (fun _ _ _ _ _ => (d_var 3)) (fun _ _ _ _ _ => d_bool))
    (ss_cons (s_while PassesOwn.never (t_tr (d_var 2))
    (ss_cons (s_pop (i := 2) (j := 3) rfl (by first | exact Or.inl rfl | exact Or.inr (Or.inl rfl) | exact Or.inr (Or.inr rfl)) sc.nd rfl (.inl rfl))
    (ss_one (s_for PassesOwn.never rfl (i_L (d_callU h_moves_of (hr.mono (by first | decide | omega)) (by rfl) (a_cons (d_var 0) (a_cons (d_var 3) a_nil)))) (g_n (i := 5) sc.nd rfl (.inl rfl))
    (ss_one (s_for PassesOwn.never rfl (i_L (d_callUK h_states_behind (hr.mono (by first | decide | omega)) (by rfl) (a_cons (d_var 0) (a_cons (d_var 3) (a_cons (d_var 5) a_nil))) (k_cons (d_var 1) k_nil) (aLen (aLen (aLen aLen0))) (aLen aLen0))) (g_n (i := 6) sc.nd rfl (.inl rfl))
    (ss_one (s_if (t_cmp (op_niN hu) cd_niN (d_var 6) (d_var 4) (by rfl))
    (ss_cons (s_stD (i := 4) (j := 6) hu rfl (by first | exact Or.inl rfl | exact Or.inr (Or.inl rfl) | exact Or.inr (Or.inr rfl)) rfl (by first | exact Or.inl rfl | exact Or.inr (Or.inl rfl) | exact Or.inr (Or.inr rfl)) d_bool)
    (ss_one (s_app (i := 2) rfl (by first | exact Or.inl rfl | exact Or.inr (Or.inl rfl) | exact Or.inr (Or.inr rfl)) (d_var 6))))
    ss_nil))))))))
    (ss_one (s_ret (d_callB (cr_srtD rfl hu) ld_srtD (by rfl) bi.sorted_ (by decide +kernel) (a_cons (d_var 4) a_nil)))))))
theorem sc_sure_by : FnScope ["sky", "state", "move", "numbers", "most", "behind", "one"] ["sky", "state", "move", "numbers", "most"] (defScope (topS 16)) := ⟨rfl, rfl, rfl, by decide +kernel, rfl, by decide +kernel, by decide +kernel⟩
theorem ok_sure_by (F : Fun K "sure_by" "sure_by" (topS 16) f fd) (bi : Bi mg) (h_gain_of : DefU P w K mg base 1 "gain_of" ["sky", "state", "move"] false s_gain_of) (h_states_behind : DefUK P w K mg base 4 "states_behind" 3 ["most"] ["sky", "state", "move", "most"] false (s_states_behind Sk.srt)) : FnOk P w K mg base CX0 5 f fd ["sky", "state", "move", "numbers", "most"] (spD ⟨K, P, w⟩ false (s_sure_by Sk.srt)) := by
  have sc := sc_sure_by
  refine def_ok (k := 4) F sc (by decide) (fun cdv A outer s H E hr => ?_)
  have hu := hr.units
  have hu65 := units65 hr
  exact (ss_cons (s_setLc (i := 5) rfl sc.nd rfl rfl (sw_true rfl rfl rfl (by decide +kernel)) (i_L (d_callUK h_states_behind (hr.mono (by first | decide | omega)) (by rfl) (a_cons (d_var 0) (a_cons (d_var 1) (a_cons (d_var 2) a_nil))) (k_cons (d_var 4) k_nil) (aLen (aLen (aLen aLen0))) (aLen aLen0))) (blkOk_by (N := ["sky", "state", "move", "numbers", "most", "behind", "one"]) (sc := defScope (topS 16)) (own := [("one", 6)]) (by decide +kernel)) rfl (fun _ _ _ _ _ => (g_n (i := 6) sc.nd rfl (.inl rfl))) (fun _ _ _ _ _ => ts_nil) (fun _ _ _ _ _ => (d_ix (ix_dict hu) od_get (d_var 3) (d_var 6) (fun _ _ => rfl))))
    (ss_one (s_ret (d_op op_add od_add (d_callU h_gain_of (hr.mono (by first | decide | omega)) (by rfl) (a_cons (d_var 0) (a_cons (d_var 1) (a_cons (d_var 2) a_nil)))) (d_minD rfl hu (by rfl) bi.min_ (d_var 5))))))
theorem sc_sure_numbers : FnScope ["sky", "most", "numbers", "state", "move"] ["sky", "most"] (defScope (topS 17)) := ⟨rfl, rfl, rfl, by decide +kernel, rfl, by decide +kernel, by decide +kernel⟩
theorem ok_sure_numbers (F : Fun K "sure_numbers" "sure_numbers" (topS 17) f fd) (bi : Bi mg) (h_reached : DefU P w K mg base 5 "reached" ["sky", "most"] false (s_reached Sk.srt)) (h_sure_by : DefU P w K mg base 5 "sure_by" ["sky", "state", "move", "numbers", "most"] false (s_sure_by Sk.srt)) (h_moves_of : DefU P w K mg base 3 "moves_of" ["sky", "state"] false s_moves_of) : FnOk P w K mg base CX0 6 f fd ["sky", "most"] (spD ⟨K, P, w⟩ false (s_sure_numbers Sk.srt)) := by
  have sc := sc_sure_numbers
  refine def_ok (k := 5) F sc (by decide) (fun cdv A outer s H E hr => ?_)
  have hu := hr.units
  have hu65 := units65 hr
  exact (ss_cons (s_new (i := 2) sc.nd rfl (.inr rfl) d_dict0)
    (ss_cons (s_for PassesOwn.never rfl (i_Rev (by rfl) bi.reversed_ (d_callU h_reached (hr.mono (by first | decide | omega)) (by rfl) (a_cons (d_var 0) (a_cons (d_var 1) a_nil)))) (g_n (i := 3) sc.nd rfl (.inr rfl))
    (ss_one (s_stD (i := 2) (j := 3) hu rfl (by first | exact Or.inl rfl | exact Or.inr (Or.inl rfl) | exact Or.inr (Or.inr rfl)) rfl (by first | exact Or.inl rfl | exact Or.inr (Or.inl rfl) | exact Or.inr (Or.inr rfl)) (d_callB (cr_max rfl) ld_max (by rfl) bi.max_ (by decide +kernel) (a_cons (d_seal (d_lc rfl sc.nd (i_L (d_callU h_moves_of (hr.mono (by first | decide | omega)) (by rfl) (a_cons (d_var 0) (a_cons (d_var 3) a_nil)))) (blkOk_by (N := ["sky", "most", "numbers", "state", "move"]) (sc := defScope (topS 17)) (own := [("move", 4)]) (by decide +kernel)) rfl (fun _ _ _ _ _ => (g_n (i := 4) sc.nd rfl (.inl rfl))) (fun _ _ _ _ _ => ts_nil) (fun _ _ _ _ _ => (d_callU h_sure_by (hr.mono (by first | decide | omega)) (by rfl) (a_cons (d_var 0) (a_cons (d_var 3) (a_cons (d_var 4) (a_cons (d_var 2) (a_cons (d_var 1) a_nil))))))))) a_nil)))))
    (ss_one (s_ret (d_var 2)))))
theorem sc_sure_table : FnScope ["sky", "most"] ["sky", "most"] (defScope (topS 18)) := ⟨rfl, rfl, rfl, by decide +kernel, rfl, by decide +kernel, by decide +kernel⟩
theorem ok_sure_table (F : Fun K "sure_table" "sure_table" (topS 18) f fd) (bi : Bi mg) (h_sure_numbers : DefU P w K mg base 6 "sure_numbers" ["sky", "most"] false (s_sure_numbers Sk.srt)) : FnOk P w K mg base CX0 7 f fd ["sky", "most"] (spD ⟨K, P, w⟩ false (s_sure_table Sk.srt)) := by
  have sc := sc_sure_table
  refine def_ok (k := 6) F sc (by decide) (fun cdv A outer s H E hr => ?_)
  have hu := hr.units
  have hu65 := units65 hr
  exact (ss_one (s_ret (d_srtI rfl hu (by rfl) bi.sorted_ (d_callU h_sure_numbers (hr.mono (by first | decide | omega)) (by rfl) (a_cons (d_var 0) (a_cons (d_var 1) a_nil))))))
theorem sc_sure_rule : FnScope ["sky", "most", "numbers", "rule", "state", "move"] ["sky", "most"] (defScope (topS 19)) := ⟨rfl, rfl, rfl, by decide +kernel, rfl, by decide +kernel, by decide +kernel⟩
theorem ok_sure_rule (F : Fun K "sure_rule" "sure_rule" (topS 19) f fd) (bi : Bi mg) (h_sure_numbers : DefU P w K mg base 6 "sure_numbers" ["sky", "most"] false (s_sure_numbers Sk.srt)) (h_may_take : DefU P w K mg base 2 "may_take" ["sky", "state"] false s_may_take) (h_sure_by : DefU P w K mg base 5 "sure_by" ["sky", "state", "move", "numbers", "most"] false (s_sure_by Sk.srt)) : FnOk P w K mg base CX0 7 f fd ["sky", "most"] (spD ⟨K, P, w⟩ false (s_sure_rule Sk.srt)) := by
  have sc := sc_sure_rule
  refine def_ok (k := 6) F sc (by decide) (fun cdv A outer s H E hr => ?_)
  have hu := hr.units
  have hu65 := units65 hr
  exact (ss_cons (s_set (i := 2) sc.nd rfl (.inl rfl) (d_callU h_sure_numbers (hr.mono (by first | decide | omega)) (by rfl) (a_cons (d_var 0) (a_cons (d_var 1) a_nil))))
    (ss_cons (s_new (i := 3) sc.nd rfl (.inl rfl) (d_lst a_nil))
    (ss_cons (s_for PassesOwn.never rfl (i_L (d_callB (cr_srtD rfl hu) ld_srtD (by rfl) bi.sorted_ (by decide +kernel) (a_cons (d_var 2) a_nil))) (g_n (i := 4) sc.nd rfl (.inl rfl))
    (ss_cons (s_set (i := 5) sc.nd rfl (.inl rfl) d_str)
    (ss_cons (s_if (PW.pt (w_and (t_tr (d_callU h_may_take (hr.mono (by first | decide | omega)) (by rfl) (a_cons (d_var 0) (a_cons (d_var 4) a_nil)))) (w_and1 (t_cmp (op_eqD hu) cd_eq (d_callU h_sure_by (hr.mono (by first | decide | omega)) (by rfl) (a_cons (d_var 0) (a_cons (d_var 4) (a_cons d_str (a_cons (d_var 2) (a_cons (d_var 1) a_nil)))))) (d_ix (ix_dict hu) od_get (d_var 2) (d_var 4) (fun _ _ => rfl)) (nomark _)))))
    (ss_one (s_set (i := 5) sc.nd rfl (.inl rfl) d_str))
    ss_nil)
    (ss_one (s_app (i := 3) rfl (by first | exact Or.inl rfl | exact Or.inr (Or.inl rfl) | exact Or.inr (Or.inr rfl)) (d_tup (a_cons (d_var 4) (a_cons (d_var 5) a_nil))))))))
    (ss_one (s_ret (d_var 3))))))
theorem sc_is_sure_lower : FnScope ["sky", "rows", "most", "numbers", "state", "number", "good", "move", "behind", "one"] ["sky", "rows", "most"] (defScope (topS 20)) := ⟨rfl, rfl, rfl, by decide +kernel, rfl, by decide +kernel, by decide +kernel⟩
theorem ok_is_sure_lower (F : Fun K "is_sure_lower" "is_sure_lower" (topS 20) f fd) (bi : Bi mg) (h_moves_of : DefU P w K mg base 3 "moves_of" ["sky", "state"] false s_moves_of) (h_states_behind : DefUK P w K mg base 4 "states_behind" 3 ["most"] ["sky", "state", "move", "most"] false (s_states_behind Sk.srt)) (h_sure_by : DefU P w K mg base 5 "sure_by" ["sky", "state", "move", "numbers", "most"] false (s_sure_by Sk.srt)) (h_first_states : DefUK P w K mg base 2 "first_states" 1 ["most"] ["sky", "most"] true (s_first_states Sk.srt)) : FnOk P w K mg base CX0 6 f fd ["sky", "rows", "most"] (spD ⟨K, P, w⟩ false (s_is_sure_lower Sk.srt)) := by
  have sc := sc_is_sure_lower
  refine def_ok (k := 5) F sc (by decide) (fun cdv A outer s H E hr => ?_)
  have hu := hr.units
  have hu65 := units65 hr
  exact (ss_cons (s_set (i := 3) sc.nd rfl (.inr rfl) (d_callTy (cr_dictN rfl hu) ld_dictN (by rfl) bi.dict_ (by decide +kernel) (a_cons (d_var 1) a_nil)))
    (ss_cons (s_if (PW.pt (w_or (t_cmp (op_neD hu) cd_ne (d_callB call_lenN ld_lenN (by rfl) bi.len_ (by decide +kernel) (a_cons (d_var 3) a_nil)) (d_callB call_len_seq ld_len (by rfl) bi.len_ (by decide +kernel) (a_cons (d_var 1) a_nil)) (nomark _)) (w_or1 (t_not (t_tr (d_callB (cr_all rfl) ld_all (by rfl) bi.all_ (by decide +kernel) (a_cons (d_seal (d_lc rfl sc.nd (i_L (d_seal (d_callUK h_first_states (hr.mono (by first | decide | omega)) (by rfl) (a_cons (d_var 0) a_nil) (k_cons (d_var 2) k_nil) (aLen aLen0) (aLen aLen0)))) (blkOk_by (N := ["sky", "rows", "most", "numbers", "state", "number", "good", "move", "behind", "one"]) (sc := defScope (topS 20)) (own := [("one", 9)]) (by decide +kernel)) rfl (fun _ _ _ _ _ => (g_n (i := 9) sc.nd rfl (.inl rfl))) (fun _ _ _ _ _ => ts_nil) (fun _ _ _ _ _ => (d_cmp (op_inN hu) cd_inN (d_var 9) (d_var 3) (by rfl))))) a_nil)))))))
    (ss_one (s_ret d_bool))
    ss_nil)
    (ss_cons (s_for PassesOwn.never rfl (i_L (d_var 1)) (g_t rfl (gs_cons (g_n (i := 4) sc.nd rfl (.inl rfl)) (gs_cons (g_n (i := 5) sc.nd rfl (.inl rfl)) gs_nil)))
    (ss_cons (s_set (i := 6) sc.nd rfl (.inl rfl) d_bool)
    (ss_cons (s_for PassesOwn.never rfl (i_L (d_callU h_moves_of (hr.mono (by first | decide | omega)) (by rfl) (a_cons (d_var 0) (a_cons (d_var 4) a_nil)))) (g_n (i := 7) sc.nd rfl (.inl rfl))
    (ss_cons (s_set (i := 8) sc.nd rfl (.inl rfl) (d_callUK h_states_behind (hr.mono (by first | decide | omega)) (by rfl) (a_cons (d_var 0) (a_cons (d_var 4) (a_cons (d_var 7) a_nil))) (k_cons (d_var 2) k_nil) (aLen (aLen (aLen aLen0))) (aLen aLen0)))
    (ss_one (s_if (PW.pt (w_and (t_tr (d_callB (cr_all rfl) ld_all (by rfl) bi.all_ (by decide +kernel) (a_cons (d_seal (d_lc rfl sc.nd (i_L (d_var 8)) (blkOk_by (N := ["sky", "rows", "most", "numbers", "state", "number", "good", "move", "behind", "one"]) (sc := defScope (topS 20)) (own := [("one", 9)]) (by decide +kernel)) rfl (fun _ _ _ _ _ => (g_n (i := 9) sc.nd rfl (.inl rfl))) (fun _ _ _ _ _ => ts_nil) (fun _ _ _ _ _ => (d_cmp (op_inN hu) cd_inN (d_var 9) (d_var 3) (by rfl))))) a_nil))) (w_and1 (t_cmp op_ge cd_ge (d_callU h_sure_by (hr.mono (by first | decide | omega)) (by rfl) (a_cons (d_var 0) (a_cons (d_var 4) (a_cons (d_var 7) (a_cons (d_var 3) (a_cons (d_var 2) a_nil)))))) (d_var 5) (nomark _)))))
    (ss_one (s_set (i := 6) sc.nd rfl (.inl rfl) d_bool))
    ss_nil))))
    (ss_one (s_if (t_not (t_tr (d_var 6)))
    (ss_one (s_ret d_bool))
    ss_nil)))))
    (ss_one (s_ret d_bool)))))
theorem sc_is_sure_upper : FnScope ["sky", "rows", "most", "numbers", "firsts", "state", "number", "move", "behind", "told", "one"] ["sky", "rows", "most"] (defScope (topS 21)) := ⟨rfl, rfl, rfl, by decide +kernel, rfl, by decide +kernel, by decide +kernel⟩
theorem ok_is_sure_upper (F : Fun K "is_sure_upper" "is_sure_upper" (topS 21) f fd) (bi : Bi mg) (h_first_states : DefUK P w K mg base 2 "first_states" 1 ["most"] ["sky", "most"] true (s_first_states Sk.srt)) (h_moves_of : DefU P w K mg base 3 "moves_of" ["sky", "state"] false s_moves_of) (h_states_behind : DefUK P w K mg base 4 "states_behind" 3 ["most"] ["sky", "state", "move", "most"] false (s_states_behind Sk.srt)) (h_gain_of : DefU P w K mg base 1 "gain_of" ["sky", "state", "move"] false s_gain_of) : FnOk P w K mg base CX0 5 f fd ["sky", "rows", "most"] (spD ⟨K, P, w⟩ false (s_is_sure_upper Sk.srt)) := by
  have sc := sc_is_sure_upper
  refine def_ok (k := 4) F sc (by decide) (fun cdv A outer s H E hr => ?_)
  have hu := hr.units
  have hu65 := units65 hr
  exact (ss_cons (s_set (i := 3) sc.nd rfl (.inr rfl) (d_callTy (cr_dictN rfl hu) ld_dictN (by rfl) bi.dict_ (by decide +kernel) (a_cons (d_var 1) a_nil)))
    (ss_cons (s_set (i := 4) sc.nd rfl (.inl rfl) (d_seal (d_callUK h_first_states (hr.mono (by first | decide | omega)) (by rfl) (a_cons (d_var 0) a_nil) (k_cons (d_var 2) k_nil) (aLen aLen0) (aLen aLen0))))
    (ss_cons (s_if (PW.pt (w_or (t_cmp (op_neD hu) cd_ne (d_callB call_lenN ld_lenN (by rfl) bi.len_ (by decide +kernel) (a_cons (d_var 3) a_nil)) (d_callB call_len_seq ld_len (by rfl) bi.len_ (by decide +kernel) (a_cons (d_var 1) a_nil)) (nomark _)) (w_or1 (PW.pt (w_and (t_tr (d_var 4)) (w_and1 (t_not (t_tr (d_callB (cr_any rfl) ld_any (by rfl) bi.any_ (by decide +kernel) (a_cons (d_seal (d_lc rfl sc.nd (i_L (d_var 4)) (blkOk_by (N := ["sky", "rows", "most", "numbers", "firsts", "state", "number", "move", "behind", "told", "one"]) (sc := defScope (topS 21)) (own := [("one", 10)]) (by decide +kernel)) rfl (fun _ _ _ _ _ => (g_n (i := 10) sc.nd rfl (.inl rfl))) (fun _ _ _ _ _ => ts_nil) (fun _ _ _ _ _ => (d_cmp (op_inN hu) cd_inN (d_var 10) (d_var 3) (by rfl))))) a_nil))))))))))
    (ss_one (s_ret d_bool))
    ss_nil)
    (ss_cons (s_for PassesOwn.never rfl (i_L (d_var 1)) (g_t rfl (gs_cons (g_n (i := 5) sc.nd rfl (.inl rfl)) (gs_cons (g_n (i := 6) sc.nd rfl (.inl rfl)) gs_nil)))
    (ss_one (s_for PassesOwn.never rfl (i_L (d_callU h_moves_of (hr.mono (by first | decide | omega)) (by rfl) (a_cons (d_var 0) (a_cons (d_var 5) a_nil)))) (g_n (i := 7) sc.nd rfl (.inl rfl))
    (ss_cons (s_set (i := 8) sc.nd rfl (.inl rfl) (d_callUK h_states_behind (hr.mono (by first | decide | omega)) (by rfl) (a_cons (d_var 0) (a_cons (d_var 5) (a_cons (d_var 7) a_nil))) (k_cons (d_var 2) k_nil) (aLen (aLen (aLen aLen0))) (aLen aLen0)))
    (ss_cons (s_setLc (i := 9) rfl sc.nd rfl rfl (sw_true rfl rfl rfl (by decide +kernel)) (i_L (d_var 8)) (blkOk_by (N := ["sky", "rows", "most", "numbers", "firsts", "state", "number", "move", "behind", "told", "one"]) (sc := defScope (topS 21)) (own := [("one", 10)]) (by decide +kernel)) rfl (fun _ _ _ _ _ => (g_n (i := 10) sc.nd rfl (.inl rfl))) (fun _ _ _ _ _ => (ts_one (t_cmp (op_inN hu) cd_inN (d_var 10) (d_var 3) (by rfl)))) (fun _ _ _ _ _ => (d_ix (ix_dict hu) od_get (d_var 3) (d_var 10) (fun _ _ => rfl))))
    (ss_one (s_if (PW.pt (w_or (PW.pt (w_and (t_tr (d_var 8)) (w_and1 (t_not (t_tr (d_var 9)))))) (w_or1 (t_cmp op_gt cd_gt (d_op op_add od_add (d_callU h_gain_of (hr.mono (by first | decide | omega)) (by rfl) (a_cons (d_var 0) (a_cons (d_var 5) (a_cons (d_var 7) a_nil)))) (d_minD rfl hu (by rfl) bi.min_ (d_var 9))) (d_var 6) (nomark _)))))
    (ss_one (s_ret d_bool))
    ss_nil)))))))
    (ss_one (s_ret d_bool))))))
theorem sc_law_draws : FnScope ["_law_script", "_law_count", "_law_rests", "_law_draws_here", "_law_k", "_law_value", "_law_at", "_law_mixed", "_law_cell"] ["_law_script", "_law_count"] (defScope (topS 23)) := ⟨rfl, rfl, rfl, by decide +kernel, rfl, by decide +kernel, by decide +kernel⟩
theorem ok_law_draws (F : Fun K "_law_draws" "_law_draws" (topS 23) f fd) (bi : Bi mg)  : FnOk P w K mg base CX0 1 f fd ["_law_script", "_law_count"] (spD ⟨K, P, w⟩ false s_law_draws) := by
  have sc := sc_law_draws
  refine def_ok (k := 0) F sc (by decide) (fun cdv A outer s H E hr => ?_)
  have hu := hr.units
  have hu65 := units65 hr
  exact (ss_cons (s_newLc (i := 2) rfl sc.nd rfl rfl (sw_true rfl rfl rfl (by decide +kernel)) (i_L (d_var 0)) (blkOk_by (N := ["_law_script", "_law_count", "_law_rests", "_law_draws_here", "_law_k", "_law_value", "_law_at", "_law_mixed", "_law_cell"]) (sc := defScope (topS 23)) (own := [("_law_cell", 8)]) (by decide +kernel)) rfl (fun _ _ _ _ _ => (g_n (i := 8) sc.nd rfl (.inl rfl))) (fun _ _ _ _ _ => ts_nil) (fun _ _ _ _ _ => (d_var 8)))
    (ss_cons (s_new (i := 3) sc.nd rfl (.inl rfl) (d_lst a_nil))
    (ss_cons (s_for PassesOwn.never rfl (i_R (by rfl) bi.range_ (d_var 1)) (g_n (i := 4) sc.nd rfl (.inl rfl))
    (ss_cons (s_setF (i := 5) sc.nd rfl (.inl rfl) d_int)
    (ss_cons (s_if (t_cmp op_gt cd_gt (d_callB call_len_seq ld_len (by rfl) bi.len_ (by decide +kernel) (a_cons (d_var 2) a_nil)) d_int (nomark _))
    (ss_cons (s_setF (i := 6) sc.nd rfl (.inl rfl) (d_op op_mod od_mod (d_callTy call_int1 ld_int (by rfl) bi.int_ (by decide +kernel) (a_cons (d_var 4) a_nil)) (d_callB call_len_seq ld_len (by rfl) bi.len_ (by decide +kernel) (a_cons (d_var 2) a_nil))))
    (ss_one (s_if (t_cmp op_ge cd_ge (d_ix ix_seq od_ixL (d_var 2) (d_var 6) (fun _ _ => rfl)) (d_op op_pow od_pow d_int d_int) (nomark _))
    (ss_cons (s_setF (i := 5) sc.nd rfl (.inl rfl) (d_op op_mod od_mod (d_callTy call_int1 ld_int (by rfl) bi.int_ (by decide +kernel) (a_cons (d_ix ix_seq od_ixL (d_var 2) (d_var 6) (fun _ _ => rfl)) a_nil)) d_int))
    (ss_one (s_stL (i := 2) rfl (by first | exact Or.inl rfl | exact Or.inr (Or.inl rfl) | exact Or.inr (Or.inr rfl)) (d_var 6) (d_op op_fdiv od_div (d_ix ix_seq od_ixL (d_var 2) (d_var 6) (fun _ _ => rfl)) d_int))))
    (ss_cons (s_setF (i := 7) sc.nd rfl (.inl rfl) (d_op op_mod od_mod (d_callTy call_int1 ld_int (by rfl) bi.int_ (by decide +kernel) (a_cons (d_op op_add od_add (d_op op_add od_add (d_op op_mul od_mul (d_ix ix_seq od_ixL (d_var 2) (d_var 6) (fun _ _ => rfl)) d_int) (d_op op_mul od_mul (d_var 4) d_int)) d_int) a_nil)) d_int))
    (ss_cons (s_setF (i := 7) sc.nd rfl (.inl rfl) (d_op op_mod od_mod (d_callTy call_int1 ld_int (by rfl) bi.int_ (by decide +kernel) (a_cons (d_op op_add od_add (d_op op_mul od_mul (d_var 7) d_int) (d_var 6)) a_nil)) d_int))
    (ss_one (s_setF (i := 5) sc.nd rfl (.inl rfl) (d_op op_mod od_mod (d_callTy call_int1 ld_int (by rfl) bi.int_ (by decide +kernel) (a_cons (d_op op_fdiv od_div (d_var 7) d_int) a_nil)) d_int))))))))
    ss_nil)
    (ss_one (s_app (i := 3) rfl (by first | exact Or.inl rfl | exact Or.inr (Or.inl rfl) | exact Or.inr (Or.inr rfl)) (d_var 5))))))
    (ss_one (s_ret (d_var 3))))))
theorem sc_law_sky : FnScope ["_law_draws_here", "_law_most", "_law_wishes", "_law_k", "_law_worths", "_law_ears", "_law_since", "_law_first", "_law_looks", "_law_start", "_law_angle"] ["_law_draws_here", "_law_most"] (defScope (topS 24)) := ⟨rfl, rfl, rfl, by decide +kernel, rfl, by decide +kernel, by decide +kernel⟩
theorem ok_law_sky (F : Fun K "_law_sky" "_law_sky" (topS 24) f fd) (bi : Bi mg)  : FnOk P w K mg base CX0 1 f fd ["_law_draws_here", "_law_most"] (spD ⟨K, P, w⟩ false s_law_sky) := by
  have sc := sc_law_sky
  refine def_ok (k := 0) F sc (by decide) (fun cdv A outer s H E hr => ?_)
  have hu := hr.units
  have hu65 := units65 hr
  exact (ss_cons (s_set (i := 2) sc.nd rfl (.inl rfl) (d_op op_add od_add d_int (d_op op_mod od_mod (d_callTy call_int1 ld_int (by rfl) bi.int_ (by decide +kernel) (a_cons (d_ix ix_seq od_ixL (d_var 0) d_int (fun _ _ => rfl)) a_nil)) d_int)))
    (ss_cons (s_setLc (i := 4) rfl sc.nd rfl rfl (sw_true rfl rfl rfl (by decide +kernel)) (i_R (by rfl) bi.range_ (d_var 2)) (blkOk_by (N := ["_law_draws_here", "_law_most", "_law_wishes", "_law_k", "_law_worths", "_law_ears", "_law_since", "_law_first", "_law_looks", "_law_start", "_law_angle"]) (sc := defScope (topS 24)) (own := [("_law_k", 3)]) (by decide +kernel)) rfl (fun _ _ _ _ _ => (g_n (i := 3) sc.nd rfl (.inl rfl))) (fun _ _ _ _ _ => ts_nil) (fun _ _ _ _ _ => (d_op op_mod od_mod (d_callTy call_int1 ld_int (by rfl) bi.int_ (by decide +kernel) (a_cons (d_ix ix_seq od_ixL (d_var 0) (d_op op_add od_add d_int (d_var 3)) (fun _ _ => rfl)) a_nil)) d_int)))
    (ss_cons (s_new (i := 5) sc.nd rfl (.inl rfl) (d_lst a_nil))
    (ss_cons (s_set (i := 6) sc.nd rfl (.inl rfl) d_int)
    (ss_cons (s_for PassesOwn.never rfl (i_R (by rfl) bi.range_ (d_op op_mod od_mod (d_callTy call_int1 ld_int (by rfl) bi.int_ (by decide +kernel) (a_cons (d_ix ix_seq od_ixL (d_var 0) d_int (fun _ _ => rfl)) a_nil)) d_int)) (g_n (i := 3) sc.nd rfl (.inl rfl))
    (ss_cons (s_set (i := 7) sc.nd rfl (.inl rfl) (d_op op_add od_add (d_var 6) (d_op op_mod od_mod (d_callTy call_int1 ld_int (by rfl) bi.int_ (by decide +kernel) (a_cons (d_ix ix_seq od_ixL (d_var 0) (d_op op_add od_add d_int (d_op op_mul od_mul d_int (d_var 3))) (fun _ _ => rfl)) a_nil)) d_int)))
    (ss_cons (s_set (i := 6) sc.nd rfl (.inl rfl) (d_op op_add od_add (d_op op_add od_add (d_var 7) d_int) (d_op op_mod od_mod (d_callTy call_int1 ld_int (by rfl) bi.int_ (by decide +kernel) (a_cons (d_ix ix_seq od_ixL (d_var 0) (d_op op_add od_add d_int (d_op op_mul od_mul d_int (d_var 3))) (fun _ _ => rfl)) a_nil)) d_int)))
    (ss_one (s_app (i := 5) rfl (by first | exact Or.inl rfl | exact Or.inr (Or.inl rfl) | exact Or.inr (Or.inr rfl)) (d_tup (a_cons (d_var 7) (a_cons (d_var 6) (a_cons (d_op op_add od_add d_int (d_op op_mod od_mod (d_callTy call_int1 ld_int (by rfl) bi.int_ (by decide +kernel) (a_cons (d_ix ix_seq od_ixL (d_var 0) (d_op op_add od_add d_int (d_op op_mul od_mul d_int (d_var 3))) (fun _ _ => rfl)) a_nil)) d_int)) a_nil)))))))))
    (ss_cons (s_new (i := 8) sc.nd rfl (.inl rfl) (d_lst a_nil))
    (ss_cons (s_set (i := 9) sc.nd rfl (.inl rfl) d_int)
    (ss_cons (s_for PassesOwn.never rfl (i_R (by rfl) bi.range_ (d_op op_mod od_mod (d_callTy call_int1 ld_int (by rfl) bi.int_ (by decide +kernel) (a_cons (d_ix ix_seq od_ixL (d_var 0) d_int (fun _ _ => rfl)) a_nil)) (d_op op_add od_add (d_var 1) d_int))) (g_n (i := 3) sc.nd rfl (.inl rfl))
    (ss_cons (s_set (i := 9) sc.nd rfl (.inl rfl) (d_op op_add od_add (d_var 9) (d_op op_mod od_mod (d_callTy call_int1 ld_int (by rfl) bi.int_ (by decide +kernel) (a_cons (d_ix ix_seq od_ixL (d_var 0) (d_op op_add od_add d_int (d_op op_mul od_mul d_int (d_var 3))) (fun _ _ => rfl)) a_nil)) d_int)))
    (ss_cons (s_set (i := 10) sc.nd rfl (.inl rfl) (d_op op_sub od_sub (d_op op_mod od_mod (d_callTy call_int1 ld_int (by rfl) bi.int_ (by decide +kernel) (a_cons (d_ix ix_seq od_ixL (d_var 0) (d_op op_add od_add d_int (d_op op_mul od_mul d_int (d_var 3))) (fun _ _ => rfl)) a_nil)) d_int) d_int))
    (ss_one (s_app (i := 8) rfl (by first | exact Or.inl rfl | exact Or.inr (Or.inl rfl) | exact Or.inr (Or.inr rfl)) (d_tup (a_cons (d_op op_mod od_mod (d_callTy call_int1 ld_int (by rfl) bi.int_ (by decide +kernel) (a_cons (d_ix ix_seq od_ixL (d_var 0) (d_op op_add od_add d_int (d_op op_mul od_mul d_int (d_var 3))) (fun _ _ => rfl)) a_nil)) (d_var 2)) (a_cons (d_var 9) (a_cons (d_op op_add od_add d_int (d_op op_mod od_mod (d_callTy call_int1 ld_int (by rfl) bi.int_ (by decide +kernel) (a_cons (d_ix ix_seq od_ixL (d_var 0) (d_op op_add od_add d_int (d_op op_mul od_mul d_int (d_var 3))) (fun _ _ => rfl)) a_nil)) d_int)) (a_cons (d_var 10) (a_cons (d_op op_add od_add d_int (d_op op_mod od_mod (d_callTy call_int1 ld_int (by rfl) bi.int_ (by decide +kernel) (a_cons (d_ix ix_seq od_ixL (d_var 0) (d_op op_add od_add d_int (d_op op_mul od_mul d_int (d_var 3))) (fun _ _ => rfl)) a_nil)) d_int)) a_nil)))))))))))
    (ss_one (s_ret (d_tup (a_cons (d_var 8) (a_cons (d_var 4) (a_cons (d_var 5) (a_cons (d_op op_add od_add d_int (d_op op_mod od_mod (d_callTy call_int1 ld_int (by rfl) bi.int_ (by decide +kernel) (a_cons (d_ix ix_seq od_ixL (d_var 0) d_int (fun _ _ => rfl)) a_nil)) d_int)) (a_cons (d_op op_add od_add d_int (d_op op_mod od_mod (d_callTy call_int1 ld_int (by rfl) bi.int_ (by decide +kernel) (a_cons (d_ix ix_seq od_ixL (d_var 0) d_int (fun _ _ => rfl)) a_nil)) d_int)) a_nil))))))))))))))))
theorem sc_law_turn : FnScope ["_law_sky_here", "_law_first", "_law_second", "_law_ticks", "_law_turn_here"] ["_law_sky_here", "_law_first", "_law_second"] (defScope (topS 25)) := ⟨rfl, rfl, rfl, by decide +kernel, rfl, by decide +kernel, by decide +kernel⟩
theorem ok_law_turn (F : Fun K "_law_turn" "_law_turn" (topS 25) f fd) (bi : Bi mg)  : FnOk P w K mg base CX0 1 f fd ["_law_sky_here", "_law_first", "_law_second"] (spD ⟨K, P, w⟩ false s_law_turn) := by
  have sc := sc_law_turn
  refine def_ok (k := 0) F sc (by decide) (fun cdv A outer s H E hr => ?_)
  have hu := hr.units
  have hu65 := units65 hr
  exact (ss_cons (s_set (i := 3) sc.nd rfl (.inl rfl) d_int)
    (ss_cons (s_for PassesOwn.never rfl (i_R (by rfl) bi.range_ d_int) (g_n (i := 4) sc.nd rfl (.inl rfl))
    (ss_cons (s_if (t_cmp op_ge cd_ge (d_op op_mul od_mul (d_var 3) (d_ix ix_seq od_ixL (d_var 0) d_int (fun _ _ => rfl))) (d_callB call_abs ld_abs (by rfl) bi.abs_ (by decide +kernel) (a_cons (d_op op_sub od_sub (d_ix ix_seq od_ixL (d_ix ix_seq od_ixL (d_ix ix_seq od_ixL (d_var 0) d_int (fun _ _ => rfl)) (d_var 2) (fun _ _ => rfl)) d_int (fun _ _ => rfl)) (d_ix ix_seq od_ixL (d_ix ix_seq od_ixL (d_ix ix_seq od_ixL (d_var 0) d_int (fun _ _ => rfl)) (d_var 1) (fun _ _ => rfl)) d_int (fun _ _ => rfl))) a_nil)) (nomark _))
    (ss_one s_brk)
    ss_nil)
    (ss_one (s_set (i := 3) sc.nd rfl (.inl rfl) (d_op op_add od_add (d_var 3) d_int)))))
    (ss_one (s_ret (d_var 3)))))
theorem sc_law_store : FnScope ["_law_sky_here", "_law_names", "_law_time", "_law_store_here", "_law_now", "_law_first", "_law_last", "_law_rate", "_law_name", "_law_wish", "_law_start", "_law_length", "_law_angle", "_law_size"] ["_law_sky_here", "_law_names", "_law_time"] (defScope (topS 26)) := ⟨rfl, rfl, rfl, by decide +kernel, rfl, by decide +kernel, by decide +kernel⟩
theorem ok_law_store (F : Fun K "_law_store" "_law_store" (topS 26) f fd) (bi : Bi mg)  : FnOk P w K mg base CX0 1 f fd ["_law_sky_here", "_law_names", "_law_time"] (spD ⟨K, P, w⟩ false s_law_store) := by
  have sc := sc_law_store
  refine def_ok (k := 0) F sc (by decide) (fun cdv A outer s H E hr => ?_)
  have hu := hr.units
  have hu65 := units65 hr
  exact (ss_cons (s_set (i := 3) sc.nd rfl (.inl rfl) d_int)
    (ss_cons (s_for PassesOwn.never rfl (i_R (by rfl) bi.range_ (d_op op_add od_add (d_var 2) d_int)) (g_n (i := 4) sc.nd rfl (.inl rfl))
    (ss_cons (s_for PassesOwn.never rfl (i_L (d_ix ix_seq od_ixL (d_var 0) d_int (fun _ _ => rfl))) (g_t rfl (gs_cons (g_n (i := 5) sc.nd rfl (.inl rfl)) (gs_cons (g_n (i := 6) sc.nd rfl (.inl rfl)) (gs_cons (g_n (i := 7) sc.nd rfl (.inl rfl)) gs_nil))))
    (ss_one (s_if (t_chain op_le op_lt cd_le cd_lt (d_var 5) (d_op op_sub od_sub (d_var 4) d_int) (d_var 6) (fun ha hb hc => pt_chain op_le op_lt ha hb hc))
    (ss_one (s_set (i := 3) sc.nd rfl (.inl rfl) (d_callB (call_max2 rfl) ld_max2 (by rfl) bi.max_ (by decide +kernel) (a_cons d_int (a_cons (d_op op_sub od_sub (d_var 3) (d_var 7)) a_nil)))))
    ss_nil)))
    (ss_one (s_for PassesOwn.never rfl (i_L (d_var 1)) (g_n (i := 8) sc.nd rfl (.inl rfl))
    (ss_cons (s_asg (d_ix ix_seq od_ixL (d_ix ix_seq od_ixL (d_var 0) d_int (fun _ _ => rfl)) (d_var 8) (fun _ _ => rfl)) (g_t rfl (gs_cons (g_n (i := 9) sc.nd rfl (.inl rfl)) (gs_cons (g_n (i := 10) sc.nd rfl (.inl rfl)) (gs_cons (g_n (i := 11) sc.nd rfl (.inl rfl)) (gs_cons (g_n (i := 12) sc.nd rfl (.inl rfl)) (gs_cons (g_n (i := 13) sc.nd rfl (.inl rfl)) gs_nil)))))))
    (ss_one (s_if (t_cmp (op_eqD hu) cd_eq (d_op op_add od_add (d_var 10) (d_var 11)) (d_var 4) (nomark _))
    (ss_one (s_set (i := 3) sc.nd rfl (.inl rfl) (d_op op_add od_add (d_var 3) (d_var 13))))
    ss_nil)))))))
    (ss_one (s_ret (d_var 3)))))
theorem sc_law_more_ears : FnScope ["_law_sky_here", "_law_draws_here", "_law_since", "_law_ear"] ["_law_sky_here", "_law_draws_here"] (defScope (topS 27)) := ⟨rfl, rfl, rfl, by decide +kernel, rfl, by decide +kernel, by decide +kernel⟩
theorem ok_law_more_ears (F : Fun K "_law_more_ears" "_law_more_ears" (topS 27) f fd) (bi : Bi mg)  : FnOk P w K mg base CX0 1 f fd ["_law_sky_here", "_law_draws_here"] (spD ⟨K, P, w⟩ false s_law_more_ears) := by
  have sc := sc_law_more_ears
  refine def_ok (k := 0) F sc (by decide) (fun cdv A outer s H E hr => ?_)
  have hu := hr.units
  have hu65 := units65 hr
  exact (ss_cons (s_if (t_cmp (op_eqD hu) cd_eq (d_op op_mod od_mod (d_callTy call_int1 ld_int (by rfl) bi.int_ (by decide +kernel) (a_cons (d_ix ix_seq od_ixL (d_var 1) d_int (fun _ _ => rfl)) a_nil)) d_int) d_int (nomark _))
    (ss_one (s_ret (d_var 0)))
    ss_nil)
    (ss_cons (s_set (i := 2) sc.nd rfl (.inl rfl) (d_op op_add od_add (d_callB (cr_max rfl) ld_max (by rfl) bi.max_ (by decide +kernel) (a_cons (d_op op_catS od_catL (d_seal (d_lst (a_cons d_int a_nil))) (d_seal (d_lc rfl sc.nd (i_L (d_ix ix_seq od_ixL (d_var 0) d_int (fun _ _ => rfl))) (blkOk_by (N := ["_law_sky_here", "_law_draws_here", "_law_since", "_law_ear"]) (sc := defScope (topS 27)) (own := [("_law_ear", 3)]) (by decide +kernel)) rfl (fun _ _ _ _ _ => (g_n (i := 3) sc.nd rfl (.inl rfl))) (fun _ _ _ _ _ => ts_nil) (fun _ _ _ _ _ => (d_ix ix_seq od_ixL (d_var 3) d_int (fun _ _ => rfl)))))) a_nil)) (d_op op_mod od_mod (d_callTy call_int1 ld_int (by rfl) bi.int_ (by decide +kernel) (a_cons (d_ix ix_seq od_ixL (d_var 1) d_int (fun _ _ => rfl)) a_nil)) d_int)))
    (ss_one (s_ret (d_tup (a_cons (d_ix ix_seq od_ixL (d_var 0) d_int (fun _ _ => rfl)) (a_cons (d_ix ix_seq od_ixL (d_var 0) d_int (fun _ _ => rfl)) (a_cons (d_op op_catS od_catL (d_ix ix_seq od_ixL (d_var 0) d_int (fun _ _ => rfl)) (d_seal (d_lst (a_cons (d_tup (a_cons (d_var 2) (a_cons (d_op op_add od_add (d_op op_add od_add (d_var 2) d_int) (d_op op_mod od_mod (d_callTy call_int1 ld_int (by rfl) bi.int_ (by decide +kernel) (a_cons (d_ix ix_seq od_ixL (d_var 1) d_int (fun _ _ => rfl)) a_nil)) d_int)) (a_cons (d_op op_add od_add d_int (d_op op_mod od_mod (d_callTy call_int1 ld_int (by rfl) bi.int_ (by decide +kernel) (a_cons (d_ix ix_seq od_ixL (d_var 1) d_int (fun _ _ => rfl)) a_nil)) d_int)) a_nil)))) a_nil)))) (a_cons (d_ix ix_seq od_ixL (d_var 0) d_int (fun _ _ => rfl)) (a_cons (d_ix ix_seq od_ixL (d_var 0) d_int (fun _ _ => rfl)) a_nil))))))))))
theorem sc_law_without : FnScope ["_law_sky_here", "_law_failing", "_law_k"] ["_law_sky_here", "_law_failing"] (defScope (topS 28)) := ⟨rfl, rfl, rfl, by decide +kernel, rfl, by decide +kernel, by decide +kernel⟩
theorem ok_law_without (F : Fun K "_law_without" "_law_without" (topS 28) f fd) (bi : Bi mg)  : FnOk P w K mg base CX0 1 f fd ["_law_sky_here", "_law_failing"] (spD ⟨K, P, w⟩ false s_law_without) := by
  have sc := sc_law_without
  refine def_ok (k := 0) F sc (by decide) (fun cdv A outer s H E hr => ?_)
  have hu := hr.units
  have hu65 := units65 hr
  exact (ss_one (s_ret (d_tup (a_cons (d_ix ix_seq od_ixL (d_var 0) d_int (fun _ _ => rfl)) (a_cons (d_ix ix_seq od_ixL (d_var 0) d_int (fun _ _ => rfl)) (a_cons (d_seal (d_lc rfl sc.nd (i_R (by rfl) bi.range_ (d_callB call_len_seq ld_len (by rfl) bi.len_ (by decide +kernel) (a_cons (d_ix ix_seq od_ixL (d_var 0) d_int (fun _ _ => rfl)) a_nil))) (blkOk_by (N := ["_law_sky_here", "_law_failing", "_law_k"]) (sc := defScope (topS 28)) (own := [("_law_k", 2)]) (by decide +kernel)) rfl (fun _ _ _ _ _ => (g_n (i := 2) sc.nd rfl (.inl rfl))) (fun _ _ _ _ _ => (ts_one (t_cmp op_notIn_seq cd_ni (d_var 2) (d_var 1) (by rfl)))) (fun _ _ _ _ _ => (d_ix ix_seq od_ixL (d_ix ix_seq od_ixL (d_var 0) d_int (fun _ _ => rfl)) (d_var 2) (fun _ _ => rfl))))) (a_cons (d_ix ix_seq od_ixL (d_var 0) d_int (fun _ _ => rfl)) (a_cons (d_ix ix_seq od_ixL (d_var 0) d_int (fun _ _ => rfl)) a_nil))))))))
theorem sc_law_may : FnScope ["_law_sky_here", "_law_taken_here", "_law_look", "_law_failed", "_law_wish", "_law_start", "_law_length", "_law_angle", "_law_size", "_law_before", "_law_name"] ["_law_sky_here", "_law_taken_here", "_law_look", "_law_failed"] (defScope (topS 29)) := ⟨rfl, rfl, rfl, by decide +kernel, rfl, by decide +kernel, by decide +kernel⟩
theorem ok_law_may (F : Fun K "_law_may" "_law_may" (topS 29) f fd) (bi : Bi mg) (h_law_store : DefU P w K mg base 1 "_law_store" ["_law_sky_here", "_law_names", "_law_time"] false s_law_store) (h_law_turn : DefU P w K mg base 1 "_law_turn" ["_law_sky_here", "_law_first", "_law_second"] false s_law_turn) (h_law_without : DefU P w K mg base 1 "_law_without" ["_law_sky_here", "_law_failing"] false s_law_without) : FnOk P w K mg base CX0 2 f fd ["_law_sky_here", "_law_taken_here", "_law_look", "_law_failed"] (spD ⟨K, P, w⟩ false s_law_may) := by
  have sc := sc_law_may
  refine def_ok (k := 1) F sc (by decide) (fun cdv A outer s H E hr => ?_)
  have hu := hr.units
  have hu65 := units65 hr
  exact (ss_cons (s_asg (d_ix ix_seq od_ixL (d_ix ix_seq od_ixL (d_var 0) d_int (fun _ _ => rfl)) (d_var 2) (fun _ _ => rfl)) (g_t rfl (gs_cons (g_n (i := 4) sc.nd rfl (.inl rfl)) (gs_cons (g_n (i := 5) sc.nd rfl (.inl rfl)) (gs_cons (g_n (i := 6) sc.nd rfl (.inl rfl)) (gs_cons (g_n (i := 7) sc.nd rfl (.inl rfl)) (gs_cons (g_n (i := 8) sc.nd rfl (.inl rfl)) gs_nil)))))))
    (ss_cons (s_if (t_cmp op_in_seq cd_in (d_var 4) (d_seal (d_lc rfl sc.nd (i_L (d_var 1)) (blkOk_by (N := ["_law_sky_here", "_law_taken_here", "_law_look", "_law_failed", "_law_wish", "_law_start", "_law_length", "_law_angle", "_law_size", "_law_before", "_law_name"]) (sc := defScope (topS 29)) (own := [("_law_name", 10)]) (by decide +kernel)) rfl (fun _ _ _ _ _ => (g_n (i := 10) sc.nd rfl (.inl rfl))) (fun _ _ _ _ _ => ts_nil) (fun _ _ _ _ _ => (d_ix ix_seq od_ixL (d_ix ix_seq od_ixL (d_ix ix_seq od_ixL (d_var 0) d_int (fun _ _ => rfl)) (d_var 10) (fun _ _ => rfl)) d_int (fun _ _ => rfl))))) (by rfl))
    (ss_one (s_ret d_bool))
    ss_nil)
    (ss_cons (s_if (t_cmp op_gt cd_gt (d_callB call_len_seq ld_len (by rfl) bi.len_ (by decide +kernel) (a_cons (d_var 1) a_nil)) d_int (nomark _))
    (ss_cons (s_set (i := 9) sc.nd rfl (.inl rfl) (d_ix ix_seq od_ixL (d_ix ix_seq od_ixL (d_var 0) d_int (fun _ _ => rfl)) (d_ix ix_seq od_ixL (d_var 1) (d_neg d_int) (fun _ _ => rfl)) (fun _ _ => rfl)))
    (ss_one (s_if (t_cmp op_lt cd_lt (d_var 5) (d_op op_add od_add (d_op op_add od_add (d_ix ix_seq od_ixL (d_var 9) d_int (fun _ _ => rfl)) (d_ix ix_seq od_ixL (d_var 9) d_int (fun _ _ => rfl))) (d_callU h_law_turn (hr.mono (by first | decide | omega)) (by rfl) (a_cons (d_var 0) (a_cons (d_ix ix_seq od_ixL (d_var 1) (d_neg d_int) (fun _ _ => rfl)) (a_cons (d_var 2) a_nil))))) (nomark _))
    (ss_one (s_ret d_bool))
    ss_nil)))
    ss_nil)
    (ss_one (s_ret (d_cmp op_le cd_le (d_op op_add od_add (d_callU h_law_store (hr.mono (by first | decide | omega)) (by rfl) (a_cons (d_callU h_law_without (hr.mono (by first | decide | omega)) (by rfl) (a_cons (d_var 0) (a_cons (d_var 3) a_nil))) (a_cons (d_var 1) (a_cons (d_var 5) a_nil)))) (d_var 8)) (d_ix ix_seq od_ixL (d_var 0) d_int (fun _ _ => rfl)) (nomark _)))))))
theorem sc_law_state : FnScope ["_law_sky_here", "_law_taken_here", "_law_look", "_law_failed", "_law_last", "_law_wishes", "_law_name"] ["_law_sky_here", "_law_taken_here", "_law_look", "_law_failed"] (defScope (topS 30)) := ⟨rfl, rfl, rfl, by decide +kernel, rfl, by decide +kernel, by decide +kernel⟩
theorem ok_law_state (F : Fun K "_law_state" "_law_state" (topS 30) f fd) (bi : Bi mg) (h_law_store : DefU P w K mg base 1 "_law_store" ["_law_sky_here", "_law_names", "_law_time"] false s_law_store) (h_law_without : DefU P w K mg base 1 "_law_without" ["_law_sky_here", "_law_failing"] false s_law_without) : FnOk P w K mg base CX0 2 f fd ["_law_sky_here", "_law_taken_here", "_law_look", "_law_failed"] (spD ⟨K, P, w⟩ false (s_law_state Sk.srt)) := by
  have sc := sc_law_state
  refine def_ok (k := 1) F sc (by decide) (fun cdv A outer s H E hr => ?_)
  have hu := hr.units
  have hu65 := units65 hr
  exact (ss_cons (s_set (i := 4) sc.nd rfl (.inl rfl) (d_op op_catS od_catL (d_seal (d_lst (a_cons (d_neg d_int) a_nil))) (d_var 1)))
    (ss_cons (s_set (i := 5) sc.nd rfl (.inl rfl) (d_callTy call_tuple_of ld_tuple (by rfl) bi.tuple_ (by decide +kernel) (a_cons (d_callB (cr_srt hu) ld_srt (by rfl) bi.sorted_ (by decide +kernel) (a_cons (d_seal (d_lc rfl sc.nd (i_L (d_var 1)) (blkOk_by (N := ["_law_sky_here", "_law_taken_here", "_law_look", "_law_failed", "_law_last", "_law_wishes", "_law_name"]) (sc := defScope (topS 30)) (own := [("_law_name", 6)]) (by decide +kernel)) rfl (fun _ _ _ _ _ => (g_n (i := 6) sc.nd rfl (.inl rfl))) (fun _ _ _ _ _ => ts_nil) (fun _ _ _ _ _ => (d_ix ix_seq od_ixL (d_ix ix_seq od_ixL (d_ix ix_seq od_ixL (d_var 0) d_int (fun _ _ => rfl)) (d_var 6) (fun _ _ => rfl)) d_int (fun _ _ => rfl))))) a_nil)) a_nil)))
    (ss_one (s_ret (d_tup (a_cons (d_var 2) (a_cons (d_ix ix_seq od_ixL (d_var 4) (d_neg d_int) (fun _ _ => rfl)) (a_cons (d_callU h_law_store (hr.mono (by first | decide | omega)) (by rfl) (a_cons (d_callU h_law_without (hr.mono (by first | decide | omega)) (by rfl) (a_cons (d_var 0) (a_cons (d_var 3) a_nil))) (a_cons (d_var 1) (a_cons (d_ix ix_seq od_ixL (d_ix ix_seq od_ixL (d_ix ix_seq od_ixL (d_var 0) d_int (fun _ _ => rfl)) (d_var 2) (fun _ _ => rfl)) d_int (fun _ _ => rfl)) a_nil)))) (a_cons (d_var 5) (a_cons (d_var 3) a_nil))))))))))
theorem sc_law_fates : FnScope ["_law_sky_here", "_law_look", "_law_failed", "_law_most", "_law_since", "_law_found", "_law_k", "_law_one"] ["_law_sky_here", "_law_look", "_law_failed", "_law_most"] (defScope (topS 31)) := ⟨rfl, rfl, rfl, by decide +kernel, rfl, by decide +kernel, by decide +kernel⟩
theorem ok_law_fates (F : Fun K "_law_fates" "_law_fates" (topS 31) f fd) (bi : Bi mg)  : FnOk P w K mg base CX0 1 f fd ["_law_sky_here", "_law_look", "_law_failed", "_law_most"] (spD ⟨K, P, w⟩ false s_law_fates) := by
  have sc := sc_law_fates
  refine def_ok (k := 0) F sc (by decide) (fun cdv A outer s H E hr => ?_)
  have hu := hr.units
  have hu65 := units65 hr
  exact (ss_cons (s_set (i := 4) sc.nd rfl (.inl rfl) (d_neg d_int))
    (ss_cons (s_if (t_cmp op_gt cd_gt (d_var 1) d_int (nomark _))
    (ss_one (s_set (i := 4) sc.nd rfl (.inl rfl) (d_ix ix_seq od_ixL (d_ix ix_seq od_ixL (d_ix ix_seq od_ixL (d_var 0) d_int (fun _ _ => rfl)) (d_op op_sub od_sub (d_var 1) d_int) (fun _ _ => rfl)) d_int (fun _ _ => rfl))))
    ss_nil)
    (ss_cons (s_set (i := 5) sc.nd rfl (.inl rfl) (d_seal (d_lst (a_cons (d_var 2) a_nil))))
    (ss_cons (s_for PassesOwn.never rfl (i_R (by rfl) bi.range_ (d_callB call_len_seq ld_len (by rfl) bi.len_ (by decide +kernel) (a_cons (d_ix ix_seq od_ixL (d_var 0) d_int (fun _ _ => rfl)) a_nil))) (g_n (i := 6) sc.nd rfl (.inr rfl))
    (ss_one (s_if (t_chain op_lt op_le cd_lt cd_le (d_var 4) (d_ix ix_seq od_ixL (d_ix ix_seq od_ixL (d_ix ix_seq od_ixL (d_var 0) d_int (fun _ _ => rfl)) (d_var 6) (fun _ _ => rfl)) d_int (fun _ _ => rfl)) (d_ix ix_seq od_ixL (d_ix ix_seq od_ixL (d_ix ix_seq od_ixL (d_var 0) d_int (fun _ _ => rfl)) (d_var 1) (fun _ _ => rfl)) d_int (fun _ _ => rfl)) (fun ha hb hc => pt_chain op_lt op_le ha hb hc))
    (ss_one (s_set (i := 5) sc.nd rfl (.inl rfl) (d_op op_catS od_catL (d_var 5) (d_seal (d_lc rfl sc.nd (i_L (d_var 5)) (blkOk_by (N := ["_law_sky_here", "_law_look", "_law_failed", "_law_most", "_law_since", "_law_found", "_law_k", "_law_one"]) (sc := defScope (topS 31)) (own := [("_law_one", 7)]) (by decide +kernel)) rfl (fun _ _ _ _ _ => (g_n (i := 7) sc.nd rfl (.inl rfl))) (fun _ _ _ _ _ => ts_nil) (fun _ _ _ _ _ => (d_op op_catA od_catT (d_var 7) (d_tup (a_cons (d_var 6) a_nil)))))))))
    ss_nil)))
    (ss_one (s_ret (d_seal (d_lc rfl sc.nd (i_L (d_var 5)) (blkOk_by (N := ["_law_sky_here", "_law_look", "_law_failed", "_law_most", "_law_since", "_law_found", "_law_k", "_law_one"]) (sc := defScope (topS 31)) (own := [("_law_one", 7)]) (by decide +kernel)) rfl (fun _ _ _ _ _ => (g_n (i := 7) sc.nd rfl (.inl rfl))) (fun _ _ _ _ _ => (ts_one (t_cmp op_le cd_le (d_callB call_len_seq ld_len (by rfl) bi.len_ (by decide +kernel) (a_cons (d_var 7) a_nil)) (d_var 3) (nomark _)))) (fun _ _ _ _ _ => (d_var 7))))))))))
theorem sc_law_worst : FnScope ["_law_sky_here", "_law_taken_here", "_law_look", "_law_failed", "_law_most", "_law_one"] ["_law_sky_here", "_law_taken_here", "_law_look", "_law_failed", "_law_most"] (defScope (topS 32)) := ⟨rfl, rfl, rfl, by decide +kernel, rfl, by decide +kernel, by decide +kernel⟩
theorem ok_law_worst {k : Nat} {fS : List D → Option D} (hk : 2 ≤ k) (F : Fun K "_law_worst" "_law_worst" (topS 32) f fd) (bi : Bi mg) (h_law_fates : DefU P w K mg base 1 "_law_fates" ["_law_sky_here", "_law_look", "_law_failed", "_law_most"] false s_law_fates) (h_law_sure : DefU P w K mg base k "_law_sure" ["_law_sky_here", "_law_taken_here", "_law_look", "_law_failed", "_law_most"] false fS) : FnOk P w K mg base CX0 (k + 1) f fd ["_law_sky_here", "_law_taken_here", "_law_look", "_law_failed", "_law_most"] (spD ⟨K, P, w⟩ false (runDef 5 6 (b_law_worst fS))) := by
  have sc := sc_law_worst
  refine def_ok F sc (by decide) (fun cdv A outer s H E hr => ?_)
  have hu := hr.units
  have hu65 := units65 hr
  exact (ss_cons (s_if (t_cmp (op_eqD hu) cd_eq (d_op op_add od_add (d_var 2) d_int) (d_callB call_len_seq ld_len (by rfl) bi.len_ (by decide +kernel) (a_cons (d_ix ix_seq od_ixL (d_var 0) d_int (fun _ _ => rfl)) a_nil)) (nomark _))
    (ss_one (s_ret d_int))
    ss_nil)
    (ss_one (s_ret (d_callB (cr_min rfl) ld_min (by rfl) bi.min_ (by decide +kernel) (a_cons (d_seal (d_lc rfl sc.nd (i_L (d_callU h_law_fates (hr.mono (by first | decide | omega)) (by rfl) (a_cons (d_var 0) (a_cons (d_op op_add od_add (d_var 2) d_int) (a_cons (d_var 3) (a_cons (d_var 4) a_nil)))))) (blkOk_by (N := ["_law_sky_here", "_law_taken_here", "_law_look", "_law_failed", "_law_most", "_law_one"]) (sc := defScope (topS 32)) (own := [("_law_one", 5)]) (by decide +kernel)) rfl (fun _ _ _ _ _ => (g_n (i := 5) sc.nd rfl (.inl rfl))) (fun _ _ _ _ _ => ts_nil) (fun _ _ _ _ _ => (d_callU h_law_sure hr (by rfl) (a_cons (d_var 0) (a_cons (d_var 1) (a_cons (d_op op_add od_add (d_var 2) d_int) (a_cons (d_var 5) (a_cons (d_var 4) a_nil))))))))) a_nil)))))
theorem sc_law_sure : FnScope ["_law_sky_here", "_law_taken_here", "_law_look", "_law_failed", "_law_most", "_law_best"] ["_law_sky_here", "_law_taken_here", "_law_look", "_law_failed", "_law_most"] (defScope (topS 33)) := ⟨rfl, rfl, rfl, by decide +kernel, rfl, by decide +kernel, by decide +kernel⟩
theorem ok_law_sure {k : Nat} {fW : List D → Option D} (hk : 2 ≤ k) (F : Fun K "_law_sure" "_law_sure" (topS 33) f fd) (bi : Bi mg) (h_law_may : DefU P w K mg base 2 "_law_may" ["_law_sky_here", "_law_taken_here", "_law_look", "_law_failed"] false s_law_may) (h_law_worst : DefU P w K mg base k "_law_worst" ["_law_sky_here", "_law_taken_here", "_law_look", "_law_failed", "_law_most"] false fW) : FnOk P w K mg base CX0 (k + 1) f fd ["_law_sky_here", "_law_taken_here", "_law_look", "_law_failed", "_law_most"] (spD ⟨K, P, w⟩ false (runDef 5 6 (b_law_sure fW))) := by
  have sc := sc_law_sure
  refine def_ok F sc (by decide) (fun cdv A outer s H E hr => ?_)
  have hu := hr.units
  have hu65 := units65 hr
  exact (ss_cons (s_set (i := 5) sc.nd rfl (.inl rfl) (d_callU h_law_worst hr (by rfl) (a_cons (d_var 0) (a_cons (d_var 1) (a_cons (d_var 2) (a_cons (d_var 3) (a_cons (d_var 4) a_nil)))))))
    (ss_cons (s_if (t_tr (d_callU h_law_may (hr.mono (by first | decide | omega)) (by rfl) (a_cons (d_var 0) (a_cons (d_var 1) (a_cons (d_var 2) (a_cons (d_var 3) a_nil))))))
    (ss_one (s_set (i := 5) sc.nd rfl (.inl rfl) (d_callB (call_max2 rfl) ld_max2 (by rfl) bi.max_ (by decide +kernel) (a_cons (d_var 5) (a_cons (d_op op_add od_add (d_ix ix_seq od_ixL (d_ix ix_seq od_ixL (d_var 0) d_int (fun _ _ => rfl)) (d_ix ix_seq od_ixL (d_ix ix_seq od_ixL (d_ix ix_seq od_ixL (d_var 0) d_int (fun _ _ => rfl)) (d_var 2) (fun _ _ => rfl)) d_int (fun _ _ => rfl)) (fun _ _ => rfl)) (d_callU h_law_worst hr (by rfl) (a_cons (d_var 0) (a_cons (d_op op_catS od_catL (d_var 1) (d_seal (d_lst (a_cons (d_var 2) a_nil)))) (a_cons (d_var 2) (a_cons (d_var 3) (a_cons (d_var 4) a_nil))))))) a_nil)))))
    ss_nil)
    (ss_one (s_ret (d_var 5)))))
theorem sc_law_sure_worth : FnScope ["_law_sky_here", "_law_most", "_law_failed"] ["_law_sky_here", "_law_most"] (defScope (topS 34)) := ⟨rfl, rfl, rfl, by decide +kernel, rfl, by decide +kernel, by decide +kernel⟩
theorem ok_law_sure_worth (F : Fun K "_law_sure_worth" "_law_sure_worth" (topS 34) f fd) (bi : Bi mg) (h_law_sure : DefU P w K mg base 18 "_law_sure" ["_law_sky_here", "_law_taken_here", "_law_look", "_law_failed", "_law_most"] false (s_law_sure 16)) (h_law_fates : DefU P w K mg base 1 "_law_fates" ["_law_sky_here", "_law_look", "_law_failed", "_law_most"] false s_law_fates) : FnOk P w K mg base CX0 19 f fd ["_law_sky_here", "_law_most"] (spD ⟨K, P, w⟩ false s_law_sure_worth) := by
  have sc := sc_law_sure_worth
  refine def_ok (k := 18) F sc (by decide) (fun cdv A outer s H E hr => ?_)
  have hu := hr.units
  have hu65 := units65 hr
  exact (ss_cons (s_if (t_cmp (op_eqD hu) cd_eq (d_callB call_len_seq ld_len (by rfl) bi.len_ (by decide +kernel) (a_cons (d_ix ix_seq od_ixL (d_var 0) d_int (fun _ _ => rfl)) a_nil)) d_int (nomark _))
    (ss_one (s_ret d_int))
    ss_nil)
    (ss_one (s_ret (d_callB (cr_min rfl) ld_min (by rfl) bi.min_ (by decide +kernel) (a_cons (d_seal (d_lc rfl sc.nd (i_L (d_callU h_law_fates (hr.mono (by first | decide | omega)) (by rfl) (a_cons (d_var 0) (a_cons d_int (a_cons (d_tup a_nil) (a_cons (d_var 1) a_nil)))))) (blkOk_by (N := ["_law_sky_here", "_law_most", "_law_failed"]) (sc := defScope (topS 34)) (own := [("_law_failed", 2)]) (by decide +kernel)) rfl (fun _ _ _ _ _ => (g_n (i := 2) sc.nd rfl (.inl rfl))) (fun _ _ _ _ _ => ts_nil) (fun _ _ _ _ _ => (d_callU h_law_sure (hr.mono (by first | decide | omega)) (by rfl) (a_cons (d_var 0) (a_cons (d_seal (d_lst a_nil)) (a_cons d_int (a_cons (d_var 2) (a_cons (d_var 1) a_nil))))))))) a_nil)))))
theorem sc_law_failings : FnScope ["_law_sky_here", "_law_most", "_law_found", "_law_k", "_law_one"] ["_law_sky_here", "_law_most"] (defScope (topS 35)) := ⟨rfl, rfl, rfl, by decide +kernel, rfl, by decide +kernel, by decide +kernel⟩
theorem ok_law_failings (F : Fun K "_law_failings" "_law_failings" (topS 35) f fd) (bi : Bi mg)  : FnOk P w K mg base CX0 1 f fd ["_law_sky_here", "_law_most"] (spD ⟨K, P, w⟩ false (s_law_failings Sk.srt)) := by
  have sc := sc_law_failings
  refine def_ok (k := 0) F sc (by decide) (fun cdv A outer s H E hr => ?_)
  have hu := hr.units
  have hu65 := units65 hr
  exact (ss_cons (s_set (i := 2) sc.nd rfl (.inl rfl) (d_seal (d_lst (a_cons (d_tup a_nil) a_nil))))
    (ss_cons (s_for PassesOwn.never rfl (i_R (by rfl) bi.range_ (d_callB call_len_seq ld_len (by rfl) bi.len_ (by decide +kernel) (a_cons (d_ix ix_seq od_ixL (d_var 0) d_int (fun _ _ => rfl)) a_nil))) (g_n (i := 3) sc.nd rfl (.inr rfl))
    (ss_one (s_set (i := 2) sc.nd rfl (.inl rfl) (d_op op_catS od_catL (d_var 2) (d_seal (d_lc rfl sc.nd (i_L (d_var 2)) (blkOk_by (N := ["_law_sky_here", "_law_most", "_law_found", "_law_k", "_law_one"]) (sc := defScope (topS 35)) (own := [("_law_one", 4)]) (by decide +kernel)) rfl (fun _ _ _ _ _ => (g_n (i := 4) sc.nd rfl (.inl rfl))) (fun _ _ _ _ _ => ts_nil) (fun _ _ _ _ _ => (d_op op_catA od_catT (d_var 4) (d_tup (a_cons (d_var 3) a_nil))))))))))
    (ss_one (s_ret (d_callB (cr_srt hu) ld_srt (by rfl) bi.sorted_ (by decide +kernel) (a_cons (d_seal (d_lc rfl sc.nd (i_L (d_var 2)) (blkOk_by (N := ["_law_sky_here", "_law_most", "_law_found", "_law_k", "_law_one"]) (sc := defScope (topS 35)) (own := [("_law_one", 4)]) (by decide +kernel)) rfl (fun _ _ _ _ _ => (g_n (i := 4) sc.nd rfl (.inl rfl))) (fun _ _ _ _ _ => (ts_one (t_cmp op_le cd_le (d_callB call_len_seq ld_len (by rfl) bi.len_ (by decide +kernel) (a_cons (d_var 4) a_nil)) (d_var 1) (nomark _)))) (fun _ _ _ _ _ => (d_var 4)))) a_nil))))))
theorem sc_law_taken : FnScope ["_law_sky_here", "_law_rule", "_law_failing", "_law_taken_here", "_law_look", "_law_failed", "_law_state_here", "_law_told", "_law_other", "_law_move", "_law_k"] ["_law_sky_here", "_law_rule", "_law_failing"] (defScope (topS 36)) := ⟨rfl, rfl, rfl, by decide +kernel, rfl, by decide +kernel, by decide +kernel⟩
theorem ok_law_taken (F : Fun K "_law_taken" "_law_taken" (topS 36) f fd) (bi : Bi mg) (h_law_state : DefU P w K mg base 2 "_law_state" ["_law_sky_here", "_law_taken_here", "_law_look", "_law_failed"] false (s_law_state Sk.srt)) (h_law_may : DefU P w K mg base 2 "_law_may" ["_law_sky_here", "_law_taken_here", "_law_look", "_law_failed"] false s_law_may) : FnOk P w K mg base CX0 3 f fd ["_law_sky_here", "_law_rule", "_law_failing"] (spD ⟨K, P, w⟩ false (s_law_taken Sk.srt)) := by
  have sc := sc_law_taken
  refine def_ok (k := 2) F sc (by decide) (fun cdv A outer s H E hr => ?_)
  have hu := hr.units
  have hu65 := units65 hr
  exact (ss_cons (s_set (i := 3) sc.nd rfl (.inl rfl) (d_seal (d_lst a_nil)))
    (ss_cons (s_for PassesOwn.never rfl (i_R (by rfl) bi.range_ (d_callB call_len_seq ld_len (by rfl) bi.len_ (by decide +kernel) (a_cons (d_ix ix_seq od_ixL (d_var 0) d_int (fun _ _ => rfl)) a_nil))) (g_n (i := 4) sc.nd rfl (.inr rfl))
    (ss_cons (s_set (i := 5) sc.nd rfl (.inl rfl) (d_callTy call_tuple_of ld_tuple (by rfl) bi.tuple_ (by decide +kernel) (a_cons (d_seal (d_lc rfl sc.nd (i_T (d_var 2)) (blkOk_by (N := ["_law_sky_here", "_law_rule", "_law_failing", "_law_taken_here", "_law_look", "_law_failed", "_law_state_here", "_law_told", "_law_other", "_law_move", "_law_k"]) (sc := defScope (topS 36)) (own := [("_law_k", 10)]) (by decide +kernel)) rfl (fun _ _ _ _ _ => (g_n (i := 10) sc.nd rfl (.inl rfl))) (fun _ _ _ _ _ => (ts_one (t_cmp op_le cd_le (d_ix ix_seq od_ixL (d_ix ix_seq od_ixL (d_ix ix_seq od_ixL (d_var 0) d_int (fun _ _ => rfl)) (d_var 10) (fun _ _ => rfl)) d_int (fun _ _ => rfl)) (d_ix ix_seq od_ixL (d_ix ix_seq od_ixL (d_ix ix_seq od_ixL (d_var 0) d_int (fun _ _ => rfl)) (d_var 4) (fun _ _ => rfl)) d_int (fun _ _ => rfl)) (nomark _)))) (fun _ _ _ _ _ => (d_var 10)))) a_nil)))
    (ss_cons (s_set (i := 6) sc.nd rfl (.inr rfl) (d_callU h_law_state (hr.mono (by first | decide | omega)) (by rfl) (a_cons (d_var 0) (a_cons (d_var 3) (a_cons (d_var 4) (a_cons (d_var 5) a_nil))))))
    (ss_cons (s_setLc (i := 7) rfl sc.nd rfl rfl (sw_true rfl rfl rfl (by decide +kernel)) (i_L (d_var 1)) (blkOk_by (N := ["_law_sky_here", "_law_rule", "_law_failing", "_law_taken_here", "_law_look", "_law_failed", "_law_state_here", "_law_told", "_law_other", "_law_move", "_law_k"]) (sc := defScope (topS 36)) (own := [("_law_other", 8), ("_law_move", 9)]) (by decide +kernel)) rfl (fun _ _ _ _ _ => (g_t rfl (gs_cons (g_n (i := 8) sc.nd rfl (.inl rfl)) (gs_cons (g_n (i := 9) sc.nd rfl (.inl rfl)) gs_nil)))) (fun _ _ _ _ _ => (ts_one (t_cmp (op_eqD hu) cd_eq (d_var 8) (d_var 6) (nomark _)))) (fun _ _ _ _ _ => (d_var 9)))
    (ss_one (s_if (PW.pt (w_and (t_cmp (op_eqD hu) cd_eq (d_cut (d_var 7) o_no (o_some d_int)) (d_seal (d_lst (a_cons d_str a_nil))) (nomark _)) (w_and1 (t_tr (d_callU h_law_may (hr.mono (by first | decide | omega)) (by rfl) (a_cons (d_var 0) (a_cons (d_var 3) (a_cons (d_var 4) (a_cons (d_var 5) a_nil)))))))))
    (ss_one (s_set (i := 3) sc.nd rfl (.inl rfl) (d_op op_catS od_catL (d_var 3) (d_seal (d_lst (a_cons (d_var 4) a_nil))))))
    ss_nil))))))
    (ss_one (s_ret (d_var 3)))))
theorem sc_law : FnScope ["_law_script", "_law_draws_here", "_law_sky_here", "_law_most", "_law_sure_here", "_law_table", "_law_rule", "_law_numbers", "_law_met", "_law_failing", "_law_names", "_law_look", "_law_k", "_law_failed", "_law_state_here", "_law_kind", "_law_step", "_law_rows", "_law_by", "_law_firsts", "_law_least", "_law_number", "_law_name"] ["_law_script"] (defScope (topS 37)) := ⟨rfl, rfl, rfl, by decide +kernel, rfl, by decide +kernel, by decide +kernel⟩
theorem ok_law (F : Fun K "law" "law" (topS 37) f fd) (bi : Bi mg) (h_law_draws : DefU P w K mg base 1 "_law_draws" ["_law_script", "_law_count"] false s_law_draws) (h_law_more_ears : DefU P w K mg base 1 "_law_more_ears" ["_law_sky_here", "_law_draws_here"] false s_law_more_ears) (h_law_sure_worth : DefU P w K mg base 19 "_law_sure_worth" ["_law_sky_here", "_law_most"] false s_law_sure_worth) (h_law_failings : DefU P w K mg base 1 "_law_failings" ["_law_sky_here", "_law_most"] false (s_law_failings Sk.srt)) (h_law_sky : DefU P w K mg base 1 "_law_sky" ["_law_draws_here", "_law_most"] false s_law_sky) (h_sure_table : DefUK P w K mg base 7 "sure_table" 1 ["most"] ["sky", "most"] false (s_sure_table Sk.srt)) (h_sure_rule : DefUK P w K mg base 7 "sure_rule" 1 ["most"] ["sky", "most"] false (s_sure_rule Sk.srt)) (h_law_taken : DefU P w K mg base 3 "_law_taken" ["_law_sky_here", "_law_rule", "_law_failing"] false (s_law_taken Sk.srt)) (h_is_sure_lower : DefUK P w K mg base 6 "is_sure_lower" 2 ["most"] ["sky", "rows", "most"] false (s_is_sure_lower Sk.srt)) (h_law_state : DefU P w K mg base 2 "_law_state" ["_law_sky_here", "_law_taken_here", "_law_look", "_law_failed"] false (s_law_state Sk.srt)) (h_is_sure_upper : DefUK P w K mg base 5 "is_sure_upper" 2 ["most"] ["sky", "rows", "most"] false (s_is_sure_upper Sk.srt)) : FnOk P w K mg base CX0 20 f fd ["_law_script"] (spD ⟨K, P, w⟩ false (s_law Sk.srt)) := by
  have sc := sc_law
  refine def_ok (k := 19) F sc (by decide) (fun cdv A outer s H E hr => ?_)
  have hu := hr.units
  have hu65 := units65 hr
  exact (ss_cons (s_set (i := 1) sc.nd rfl (.inl rfl) (d_callU h_law_draws (hr.mono (by first | decide | omega)) (by rfl) (a_cons (d_var 0) (a_cons d_int a_nil))))
    (ss_cons (s_set (i := 2) sc.nd rfl (.inr rfl) (d_callU h_law_more_ears (hr.mono (by first | decide | omega)) (by rfl) (a_cons (d_callU h_law_sky (hr.mono (by first | decide | omega)) (by rfl) (a_cons (d_var 1) (a_cons d_int a_nil))) (a_cons (d_cut (d_var 1) (o_some d_int) (o_some d_int)) a_nil))))
    (ss_cons (s_set (i := 3) sc.nd rfl (.inl rfl) (d_op op_mod od_mod (d_callTy call_int1 ld_int (by rfl) bi.int_ (by decide +kernel) (a_cons (d_ix ix_seq od_ixL (d_var 1) d_int (fun _ _ => rfl)) a_nil)) d_int))
    (ss_cons (s_set (i := 4) sc.nd rfl (.inl rfl) (d_callU h_law_sure_worth (hr.mono (by first | decide | omega)) (by rfl) (a_cons (d_var 2) (a_cons (d_var 3) a_nil))))
    (ss_cons (s_par (i := 5) (j := 6) rfl sc.nd rfl rfl (by decide) rfl rfl (d_callUK h_sure_table (hr.mono (by first | decide | omega)) (by rfl) (a_cons (d_var 2) a_nil) (k_cons (d_var 3) k_nil) (aLen aLen0) (aLen aLen0)) (d_callUK h_sure_rule (hr.mono (by first | decide | omega)) (by rfl) (a_cons (d_var 2) a_nil) (k_cons (d_var 3) k_nil) (aLen aLen0) (aLen aLen0)) (by rfl))
    (ss_cons (s_set (i := 7) sc.nd rfl (.inr rfl) (d_callTy (cr_dictN rfl hu) ld_dictN (by rfl) bi.dict_ (by decide +kernel) (a_cons (d_var 5) a_nil)))
    (ss_cons (s_new (i := 8) sc.nd rfl (.inl rfl) (d_lst a_nil))
    (ss_cons (s_for PassesOwn.never rfl (i_L (d_callU h_law_failings (hr.mono (by first | decide | omega)) (by rfl) (a_cons (d_var 2) (a_cons (d_var 3) a_nil)))) (g_n (i := 9) sc.nd rfl (.inl rfl))
    (ss_cons (s_set (i := 10) sc.nd rfl (.inl rfl) (d_callU h_law_taken (hr.mono (by first | decide | omega)) (by rfl) (a_cons (d_var 2) (a_cons (d_var 6) (a_cons (d_var 9) a_nil)))))
    (ss_one (s_for PassesOwn.never rfl (i_R (by rfl) bi.range_ (d_callB call_len_seq ld_len (by rfl) bi.len_ (by decide +kernel) (a_cons (d_ix ix_seq od_ixL (d_var 2) d_int (fun _ _ => rfl)) a_nil))) (g_n (i := 11) sc.nd rfl (.inr rfl))
    (ss_cons (s_set (i := 13) sc.nd rfl (.inl rfl) (d_callTy call_tuple_of ld_tuple (by rfl) bi.tuple_ (by decide +kernel) (a_cons (d_seal (d_lc rfl sc.nd (i_T (d_var 9)) (blkOk_by (N := ["_law_script", "_law_draws_here", "_law_sky_here", "_law_most", "_law_sure_here", "_law_table", "_law_rule", "_law_numbers", "_law_met", "_law_failing", "_law_names", "_law_look", "_law_k", "_law_failed", "_law_state_here", "_law_kind", "_law_step", "_law_rows", "_law_by", "_law_firsts", "_law_least", "_law_number", "_law_name"]) (sc := defScope (topS 37)) (own := [("_law_k", 12)]) (by decide +kernel)) rfl (fun _ _ _ _ _ => (g_n (i := 12) sc.nd rfl (.inl rfl))) (fun _ _ _ _ _ => (ts_one (t_cmp op_le cd_le (d_ix ix_seq od_ixL (d_ix ix_seq od_ixL (d_ix ix_seq od_ixL (d_var 2) d_int (fun _ _ => rfl)) (d_var 12) (fun _ _ => rfl)) d_int (fun _ _ => rfl)) (d_ix ix_seq od_ixL (d_ix ix_seq od_ixL (d_ix ix_seq od_ixL (d_var 2) d_int (fun _ _ => rfl)) (d_var 11) (fun _ _ => rfl)) d_int (fun _ _ => rfl)) (nomark _)))) (fun _ _ _ _ _ => (d_var 12)))) a_nil)))
    (ss_cons (s_set (i := 14) sc.nd rfl (.inl rfl) (d_callU h_law_state (hr.mono (by first | decide | omega)) (by rfl) (a_cons (d_var 2) (a_cons (d_seal (d_lc rfl sc.nd (i_L (d_var 10)) (blkOk_by (N := ["_law_script", "_law_draws_here", "_law_sky_here", "_law_most", "_law_sure_here", "_law_table", "_law_rule", "_law_numbers", "_law_met", "_law_failing", "_law_names", "_law_look", "_law_k", "_law_failed", "_law_state_here", "_law_kind", "_law_step", "_law_rows", "_law_by", "_law_firsts", "_law_least", "_law_number", "_law_name"]) (sc := defScope (topS 37)) (own := [("_law_name", 22)]) (by decide +kernel)) rfl (fun _ _ _ _ _ => (g_n (i := 22) sc.nd rfl (.inl rfl))) (fun _ _ _ _ _ => (ts_one (t_cmp op_lt cd_lt (d_var 22) (d_var 11) (nomark _)))) (fun _ _ _ _ _ => (d_var 22)))) (a_cons (d_var 11) (a_cons (d_var 13) a_nil))))))
    (ss_one (s_if (t_cmp (op_notInD hu65) cd_niD (d_var 14) (d_var 8) (by rfl))
    (ss_one (s_app (i := 8) rfl (by first | exact Or.inl rfl | exact Or.inr (Or.inl rfl) | exact Or.inr (Or.inr rfl)) (d_var 14)))
    ss_nil))))))))
    (ss_cons (s_if (t_cmp op_notBl cd_notTrue (d_callUK h_is_sure_lower (hr.mono (by first | decide | omega)) (by rfl) (a_cons (d_var 2) (a_cons (d_seal (d_lc rfl sc.nd (i_L (d_var 8)) (blkOk_by (N := ["_law_script", "_law_draws_here", "_law_sky_here", "_law_most", "_law_sure_here", "_law_table", "_law_rule", "_law_numbers", "_law_met", "_law_failing", "_law_names", "_law_look", "_law_k", "_law_failed", "_law_state_here", "_law_kind", "_law_step", "_law_rows", "_law_by", "_law_firsts", "_law_least", "_law_number", "_law_name"]) (sc := defScope (topS 37)) (own := [("_law_state_here", 14)]) (by decide +kernel)) rfl (fun _ _ _ _ _ => (g_n (i := 14) sc.nd rfl (.inl rfl))) (fun _ _ _ _ _ => ts_nil) (fun _ _ _ _ _ => (d_tup (a_cons (d_var 14) (a_cons (d_ix (ix_dict hu) od_get (d_var 7) (d_var 14) (fun _ _ => rfl)) a_nil)))))) a_nil)) (k_cons (d_var 3) k_nil) (aLen (aLen aLen0)) (aLen aLen0)) d_bool (nomark _))
    (ss_one (s_ret d_bool))
    ss_nil)
    (ss_cons (s_if (t_cmp (op_neD hu) cd_ne (d_minD rfl hu (by rfl) bi.min_ (d_seal (d_lc rfl sc.nd (i_L (d_var 8)) (blkOk_by (N := ["_law_script", "_law_draws_here", "_law_sky_here", "_law_most", "_law_sure_here", "_law_table", "_law_rule", "_law_numbers", "_law_met", "_law_failing", "_law_names", "_law_look", "_law_k", "_law_failed", "_law_state_here", "_law_kind", "_law_step", "_law_rows", "_law_by", "_law_firsts", "_law_least", "_law_number", "_law_name"]) (sc := defScope (topS 37)) (own := [("_law_state_here", 14)]) (by decide +kernel)) rfl (fun _ _ _ _ _ => (g_n (i := 14) sc.nd rfl (.inl rfl))) (fun _ _ _ _ _ => (ts_one (t_cmp (op_eqD hu) cd_eq (d_ix ix_seq od_ixL (d_var 14) d_int (fun _ _ => rfl)) d_int (nomark _)))) (fun _ _ _ _ _ => (d_ix (ix_dict hu) od_get (d_var 7) (d_var 14) (fun _ _ => rfl)))))) (d_var 4) (nomark _))
    (ss_one (s_ret d_bool))
    ss_nil)
    (ss_cons (s_for PassesOwn.never rfl (i_R (by rfl) bi.range_ d_int) (g_n (i := 15) sc.nd rfl (.inl rfl))
    (ss_cons (s_set (i := 16) sc.nd rfl (.inl rfl) (d_ix ix_seq od_ixL (d_seal (d_lst (a_cons d_int (a_cons d_int (a_cons d_int (a_cons d_int a_nil)))))) (d_var 15) (fun _ _ => rfl)))
    (ss_cons (s_new (i := 17) sc.nd rfl (.inl rfl) (d_lst a_nil))
    (ss_cons (s_for PassesOwn.never rfl (i_R (by rfl) bi.range_ (d_callB call_len_seq ld_len (by rfl) bi.len_ (by decide +kernel) (a_cons (d_var 5) a_nil))) (g_n (i := 12) sc.nd rfl (.inl rfl))
    (ss_cons (s_set (i := 18) sc.nd rfl (.inl rfl) (d_op op_sub od_sub (d_op op_mod od_mod (d_callTy call_int1 ld_int (by rfl) bi.int_ (by decide +kernel) (a_cons (d_ix ix_seq od_ixL (d_var 1) (d_op op_add od_add d_int (d_op op_mod od_mod (d_callTy call_int1 ld_int (by rfl) bi.int_ (by decide +kernel) (a_cons (d_op op_add od_add (d_var 12) (d_op op_mul od_mul d_int (d_var 15))) a_nil)) d_int)) (fun _ _ => rfl)) a_nil)) (d_op op_add od_add (d_var 16) d_int)) (d_ix ix_seq od_ixL (d_seal (d_lst (a_cons d_int (a_cons (d_var 16) (a_cons d_int (a_cons d_int a_nil)))))) (d_var 15) (fun _ _ => rfl))))
    (ss_one (s_app (i := 17) rfl (by first | exact Or.inl rfl | exact Or.inr (Or.inl rfl) | exact Or.inr (Or.inr rfl)) (d_tup (a_cons (d_ix ix_seq od_ixL (d_ix ix_seq od_ixL (d_var 5) (d_var 12) (fun _ _ => rfl)) d_int (fun _ _ => rfl)) (a_cons (d_op op_add od_add (d_ix ix_seq od_ixL (d_ix ix_seq od_ixL (d_var 5) (d_var 12) (fun _ _ => rfl)) d_int (fun _ _ => rfl)) (d_var 18)) a_nil)))))))
    (ss_fz 17 (ss_cons (s_setLc (i := 19) rfl sc.nd rfl rfl (sw_true rfl rfl rfl (by decide +kernel)) (i_L (d_var 17)) (blkOk_by (N := ["_law_script", "_law_draws_here", "_law_sky_here", "_law_most", "_law_sure_here", "_law_table", "_law_rule", "_law_numbers", "_law_met", "_law_failing", "_law_names", "_law_look", "_law_k", "_law_failed", "_law_state_here", "_law_kind", "_law_step", "_law_rows", "_law_by", "_law_firsts", "_law_least", "_law_number", "_law_name"]) (sc := defScope (topS 37)) (own := [("_law_state_here", 14), ("_law_number", 21)]) (by decide +kernel)) rfl (fun _ _ _ _ _ => (g_t rfl (gs_cons (g_n (i := 14) sc.nd rfl (.inl rfl)) (gs_cons (g_n (i := 21) sc.nd rfl (.inl rfl)) gs_nil)))) (fun _ _ _ _ _ => (ts_one (t_cmp (op_eqD hu) cd_eq (d_ix ix_seq od_ixL (d_var 14) d_int (fun _ _ => rfl)) d_int (nomark _)))) (fun _ _ _ _ _ => (d_var 21)))
    (ss_cons (s_set (i := 20) sc.nd rfl (.inl rfl) (d_minD rfl hu (by rfl) bi.min_ (d_var 19)))
    (ss_one (s_if (PW.pt (w_or (PW.pt (w_and (t_tr (d_callUK h_is_sure_lower (hr.mono (by first | decide | omega)) (by rfl) (a_cons (d_var 2) (a_cons (d_var 17) a_nil)) (k_cons (d_var 3) k_nil) (aLen (aLen aLen0)) (aLen aLen0))) (w_and1 (t_cmp op_gt cd_gt (d_var 20) (d_var 4) (nomark _))))) (w_or1 (PW.pt (w_and (t_tr (d_callUK h_is_sure_upper (hr.mono (by first | decide | omega)) (by rfl) (a_cons (d_var 2) (a_cons (d_var 17) a_nil)) (k_cons (d_var 3) k_nil) (aLen (aLen aLen0)) (aLen aLen0))) (w_and1 (t_cmp op_lt cd_lt (d_var 20) (d_var 4) (nomark _))))))))
    (ss_one (s_ret d_bool))
    ss_nil)))))))))
    (ss_one (s_ret d_bool)))))))))))))
end
end Sk
/-! SkPure1: rules to run the semantic functions -/
namespace Sk
open PySem
section
variable {a b c : FE} {x y z d : D} {r : Rho} {g : D → D → Option D} {xs ys : List D} {as bs : FA}
theorem ev_B (h1 : a r = some x) (h2 : b r = some y) (h3 : g x y = some z) : eB g a b r = some z := by unfold eB; rw [h1, Option.bind_some, h2, Option.bind_some, h3]
theorem ev_U {g : D → Option D} (h1 : a r = some x) (h3 : g x = some z) : eU g a r = some z := by unfold eU; rw [h1, Option.bind_some, h3]
theorem ev_cons (h1 : a r = some x) (h2 : bs r = some xs) : aCons a bs r = some (x :: xs) := by unfold aCons; rw [h1, Option.bind_some, h2, Option.bind_some]
theorem ev_app (h1 : as r = some xs) (h2 : bs r = some ys) : aApp as bs r = some (xs ++ ys) := by unfold aApp; rw [h1, Option.bind_some, h2, Option.bind_some]
theorem ev_tup (h1 : as r = some xs) (hn : xs.all nd = true := by rfl) (hl : Nat.ble xs.length LIM = true := by rfl) : eTup as r = some (.tuple xs) := by
  unfold eTup; rw [h1, Option.bind_some, hn, decide_eq_true (Nat.le_of_ble_eq_true hl)]; rfl
theorem ev_lst (h1 : as r = some xs) (hn : xs.all nd = true := by rfl) (hl : Nat.ble xs.length LIM = true := by rfl) : eLst as r = some (.list xs) := by
  unfold eLst; rw [h1, Option.bind_some, hn, decide_eq_true (Nat.le_of_ble_eq_true hl)]; rfl
theorem ev_F {F : List D → Option D} (h1 : as r = some xs) (h2 : F xs = some d) : eF F as r = some d := by unfold eF; rw [h1, Option.bind_some, h2]
theorem ev_T {t : FT} {k : Bool} (h : t r = some k) : eT t r = some (.bool k) := by unfold eT; rw [h]; rfl
theorem ev_Or {k l : Bool} (h1 : a r = some (.bool k)) (h2 : b r = some (.bool l)) : eOr a b r = some (.bool (k || l)) := by
  unfold eOr; rw [h1, Option.bind_some]; cases k
  · exact h2
  · rfl
theorem ev_tC {g : D → D → Option Bool} {k : Bool} (h1 : a r = some x) (h2 : b r = some y) (h3 : g x y = some k) : tC g a b r = some k := by unfold tC; rw [h1, Option.bind_some, h2, Option.bind_some, h3]
theorem ev_tCh {g g' : D → D → Option Bool} {k l : Bool} (h1 : a r = some x) (h2 : b r = some y) (h3 : g x y = some k) (h4 : c r = some z) (h5 : g' y z = some l) : tCh g g' a b c r = some (k && l) := by
  unfold tCh; rw [h1, Option.bind_some, h2, Option.bind_some, h3, Option.bind_some]; cases k
  · rfl
  · rw [if_pos rfl, h4, Option.bind_some, h5]; rfl
theorem ev_And {s t : FT} {k l : Bool} (h1 : s r = some k) (h2 : t r = some l) : tAnd s t r = some (k && l) := by
  unfold tAnd; rw [h1, Option.bind_some]; cases k
  · rfl
  · rw [if_pos rfl, h2]; rfl
theorem ev_AndP {s t : FT} {k l : Bool} (h1 : s r = some k) (h2 : k = true → t r = some l) : tAnd s t r = some (k && l) := by
  unfold tAnd; rw [h1, Option.bind_some]; cases k
  · rfl
  · rw [if_pos rfl, h2 rfl]; rfl
theorem ev_tOr {s t : FT} {k l : Bool} (h1 : s r = some k) (h2 : t r = some l) : tOr s t r = some (k || l) := by
  unfold tOr; rw [h1, Option.bind_some]; cases k
  · rw [if_neg Bool.false_ne_true, h2]; rfl
  · rfl
theorem ev_Not {s : FT} {k : Bool} (h1 : s r = some k) : tNot s r = some (!k) := by unfold tNot; rw [h1]; rfl
theorem ev_Tr {k : Bool} (h1 : a r = some x) (h2 : truth x = some k) : tTr a r = some k := by unfold tTr; rw [h1, Option.bind_some, h2]
theorem ev_some {i : Int} (h : a r = some (.int i)) : oSome a r = some (some i) := by unfold oSome; rw [h]; rfl
theorem ev_cut {lo hi : FO} {l h : Option Int} (h1 : a r = some (.list xs)) (h2 : lo r = some l) (h3 : hi r = some h) : eCut a lo hi r = some (.list (cutD xs l h)) := by unfold eCut; rw [h1, Option.bind_some, h2, Option.bind_some, h3]; rfl
theorem ev_iL (h : a r = some (.list xs)) : iL a r = some xs := by unfold iL; rw [h]; rfl
theorem ev_iT (h : a r = some (.tuple xs)) : iT a r = some xs := by unfold iT; rw [h]; rfl
theorem ev_iR {n : Nat} (h : a r = some (.int (n : Int))) (hn : n ≤ LIM) : iR a r = some ((List.range n).map fun (k : Nat) => .int (k : Int)) := by
  unfold iR; rw [h, Option.bind_some]
  show (if _ then _ else _) = _
  rw [if_pos ⟨by omega, by simpa using hn⟩]
  rfl
theorem ev_iRev (h : a r = some (.list xs)) : Sk.iRev a r = some xs.reverse := by unfold Sk.iRev; rw [h]; rfl
end
section
variable {f fa fb : FE} {d x y : D} {s : SE} {g g' : Gam} {o : Out} {sa sb : SE}
theorem ev_seq (h1 : sa g = some (.nx g')) (h2 : sb g' = some o) : sSeq sa sb g = some o := by unfold sSeq; rw [h1, Option.bind_some]; exact h2
theorem ev_seqR (h1 : sa g = some (.rt d)) : sSeq sa sb g = some (.rt d) := by unfold sSeq; rw [h1]; rfl
theorem ev_seqB (h1 : sa g = some (.bk g')) : sSeq sa sb g = some (.bk g') := by unfold sSeq; rw [h1]; rfl
theorem ev_asg {tg : Tg} (h1 : f (vI g) = some d) (h2 : tg.gam d g = some g') : sAsg tg f g = some (.nx g') := by unfold sAsg; rw [h1, Option.bind_some, h2]; rfl
theorem ev_asgF {i : Nat} (h1 : f (vA g) = some d) (h2 : flat d = true) : sAsgF i f g = some (.nx (g.set i (.im d))) := by unfold sAsgF; rw [h1, Option.bind_some, if_pos h2]
theorem ev_new {i : Nat} (h1 : f (vI g) = some d) : sNew i f g = some (.nx (g.set i (.mu d))) := by unfold sNew; rw [h1, Option.bind_some]
theorem ev_newD {i : Nat} {m : Kvs} (h1 : f (vA g) = some (.dict m)) : sNewD i f g = some (.nx (g.set i (.mu (.dict m)))) := by unfold sNewD; rw [h1, Option.bind_some]
theorem ev_par {i j : Nat} (h1 : fa (vI g) = some x) (h2 : fb (vI g) = some y) : sPar i j fa fb g = some (.nx ((g.set i (.im x)).set j (.im y))) := by unfold sPar; rw [h1, Option.bind_some, h2, Option.bind_some]
theorem ev_ret (h1 : f (vA g) = some d) : sRet f g = some (.rt d) := by unfold sRet; rw [h1]; rfl
theorem ev_retN (h1 : f (vI g) = some d) : sRetN f g = some (.rt d) := by unfold sRetN; rw [h1]; rfl
theorem ev_if {t : FT} {k : Bool} (h : t (vA g) = some k) (ht : k = true → sa g = some o) (hf : k = false → sb g = some o) : sIf t sa sb g = some o := by
  unfold sIf; rw [h, Option.bind_some]; cases k
  · rw [if_neg Bool.false_ne_true]; exact hf rfl
  · rw [if_pos rfl]; exact ht rfl
theorem ev_ifT {t : FT} (h : t (vA g) = some true) (ht : sa g = some o) : sIf t sa sb g = some o := ev_if h (fun _ => ht) (fun z => by cases z)
theorem ev_ifF {t : FT} (h : t (vA g) = some false) (ht : sb g = some o) : sIf t sa sb g = some o := ev_if h (fun z => by cases z) (fun _ => ht)
theorem ev_aug {i : Nat} {op : D → D → Option D} {z : D} (h1 : eV i (vI g) = some x) (h2 : f (vI g) = some y) (h3 : op x y = some z) : sAug i op f g = some (.nx (g.set i (.im z))) := by unfold sAug; rw [h1, Option.bind_some, h2, Option.bind_some, h3, Option.bind_some]
theorem ev_app1 {i : Nat} {ds : List D} (h0 : g[i]? = some (.mu (.list ds))) (h1 : f (vI g) = some d) (h2 : ds.length < LIM) (h3 : nd d = true) : sApp i f g = some (.nx (g.set i (.mu (.list (ds ++ [d]))))) := by
  unfold sApp; rw [h0]; dsimp only; rw [h1, Option.bind_some, if_pos ⟨h2, h3⟩]
theorem ev_for {src : FI} {tg : Tg} {xs : List D} (h : src (vI g) = some xs) (h2 : forGo tg sa xs g = some o) : sFor src tg sa g = some o := by unfold sFor; rw [h, Option.bind_some]; exact h2
theorem ev_run {m n : Nat} {ds : List D} (hm : ds.length = m) (h : s (ds.map Sl.im ++ List.replicate (n - ds.length) Sl.no) = some (.rt d)) : runDef m n s ds = some d := by unfold runDef; rw [if_pos hm, h]
end
/-! ### loops over typed lists -/
theorem forGo_map {α : Type} {enc : α → D} {tg : Tg} {body : SE} (R : D → Prop) (Bk : Gam → Prop) : ∀ (P : List α → Gam → Prop) (xs : List α) (g : Gam), P [] g →
    (∀ done x rest, xs = done ++ x :: rest → ∀ g, P done g → ∃ g' o, tg.gam (enc x) g = some g' ∧ body g' = some o ∧ (match o with | .nx g'' => P (done ++ [x]) g'' | .rt d => R d | .bk g'' => Bk g'')) →
    ∃ o, forGo tg body (xs.map enc) g = some o ∧ (match o with | .nx g' => P xs g' ∨ Bk g' | .rt d => R d | .bk _ => False)
  | P, [], g, h0, _ => ⟨.nx g, rfl, .inl h0⟩
  | P, x :: xs, g, h0, hs => by
    obtain ⟨g', o, h1, h2, h3⟩ := hs [] x xs rfl g h0
    rw [List.map_cons, forGo, h1, Option.bind_some, h2, Option.bind_some]
    cases o with
    | rt d => exact ⟨_, rfl, h3⟩
    | bk g'' => exact ⟨_, rfl, .inr h3⟩
    | nx g'' =>
      obtain ⟨o, q1, q2⟩ := forGo_map R Bk (fun done g => P (x :: done) g) xs g'' h3 fun done y rest e g hg => hs (x :: done) y rest (by rw [e]; rfl) g hg
      exact ⟨o, q1, q2⟩
theorem for_nx {α : Type} {enc : α → D} {tg : Tg} {body : SE} (P : List α → Gam → Prop) {xs : List α} {g : Gam} (h0 : P [] g)
    (hs : ∀ done x rest, xs = done ++ x :: rest → ∀ g, P done g → ∃ g' g'', tg.gam (enc x) g = some g' ∧ body g' = some (.nx g'') ∧ P (done ++ [x]) g'') :
    ∃ g', forGo tg body (xs.map enc) g = some (.nx g') ∧ P xs g' := by
  obtain ⟨o, h1, h2⟩ := forGo_map (fun _ => False) (fun _ => False) P xs g h0 fun done x rest e g hg => by
    obtain ⟨g', g'', q1, q2, q3⟩ := hs done x rest e g hg
    exact ⟨g', _, q1, q2, q3⟩
  cases o with
  | nx g' =>
    rcases h2 with h2 | h2
    · exact ⟨g', h1, h2⟩
    · exact h2.elim
  | rt d => exact h2.elim
  | bk g' => exact h2.elim
/-- s goes on, to such slots -/
def Runs (s : SE) (g : Gam) (P : Gam → Prop) : Prop := ∃ g', s g = some (.nx g') ∧ P g'
theorem runs_of {s : SE} {g g' : Gam} {P : Gam → Prop} (h : s g = some (.nx g')) (hp : P g') : Runs s g P := ⟨g', h, hp⟩
theorem runs_seq {sa sb : SE} {g : Gam} {P Q : Gam → Prop} (h : Runs sa g P) (k : ∀ g', P g' → Runs sb g' Q) : Runs (sSeq sa sb) g Q := by
  obtain ⟨g', h1, h2⟩ := h
  obtain ⟨g'', h3, h4⟩ := k g' h2
  exact ⟨g'', ev_seq h1 h3, h4⟩
theorem runs_go {sa sb : SE} {g : Gam} {P : Gam → Prop} {o : Out} (h : Runs sa g P) (k : ∀ g', P g' → sb g' = some o) : sSeq sa sb g = some o := by
  obtain ⟨g', h1, h2⟩ := h
  exact ev_seq h1 (k g' h2)
theorem runs_if {t : FT} {k : Bool} {sa sb : SE} {g : Gam} {P : Gam → Prop} (h : t (vA g) = some k) (ht : k = true → Runs sa g P) (hf : k = false → Runs sb g P) : Runs (sIf t sa sb) g P := by
  cases k with
  | true =>
    obtain ⟨g', h1, h2⟩ := ht rfl
    exact ⟨g', ev_ifT h h1, h2⟩
  | false =>
    obtain ⟨g', h1, h2⟩ := hf rfl
    exact ⟨g', ev_ifF h h1, h2⟩
theorem runs_for {α : Type} {enc : α → D} {src : FI} {tg : Tg} {sa : SE} {g : Gam} {xs : List α} {Q : Gam → Prop} (P : List α → Gam → Prop) (h : src (vI g) = some (xs.map enc)) (h0 : P [] g)
    (hs : ∀ done x rest, xs = done ++ x :: rest → ∀ g, P done g → ∃ g', tg.gam (enc x) g = some g' ∧ Runs sa g' (P (done ++ [x]))) (hk : ∀ g', P xs g' → Q g') : Runs (sFor src tg sa) g Q := by
  obtain ⟨g', h1, h2⟩ := for_nx P h0 fun done x rest e g hg => by
    obtain ⟨g', q1, g'', q2, q3⟩ := hs done x rest e g hg
    exact ⟨g', g'', q1, q2, q3⟩
  exact ⟨g', ev_for h h1, hk g' h2⟩
theorem lcGo_map {α : Type} {enc : α → D} {tg : Tg} {tt : FT} {el : FE} {r : Rho} (p : α → Bool) (gx : α → D) : ∀ (xs : List α), (∀ x ∈ xs, ∃ r', tg.env (enc x) r = some r' ∧ tt r' = some (p x) ∧ (p x = true → el r' = some (gx x) ∧ nd (gx x) = true)) → lcGo tg tt el r (xs.map enc) = some ((xs.filter p).map gx)
  | [], _ => rfl
  | x :: xs, h => by
    obtain ⟨r', h1, h2, h3⟩ := h x (List.mem_cons_self ..)
    have ih := lcGo_map p gx xs fun y hy => h y (List.mem_cons_of_mem _ hy)
    rw [List.map_cons, lcGo, h1, Option.bind_some, h2, Option.bind_some]
    cases hp : p x with
    | false => rw [if_neg Bool.false_ne_true, List.filter_cons_of_neg (by simp [hp]), ih]
    | true =>
      obtain ⟨h4, h5⟩ := h3 hp
      rw [if_pos rfl, h4, Option.bind_some, if_pos h5, ih, List.filter_cons_of_pos hp]
      rfl
theorem ev_lc {α : Type} {enc : α → D} {src : FI} {tg : Tg} {tt : FT} {el : FE} {r : Rho} (p : α → Bool) (gx : α → D) {xs : List α} (h0 : src r = some (xs.map enc)) (hl : xs.length ≤ LIM) (h : ∀ x ∈ xs, ∃ r', tg.env (enc x) r = some r' ∧ tt r' = some (p x) ∧ (p x = true → el r' = some (gx x) ∧ nd (gx x) = true)) : eLc src tg tt el r = some (.list ((xs.filter p).map gx)) := by
  unfold eLc
  rw [h0, Option.bind_some, if_pos (by rw [List.length_map]; exact hl), lcGo_map p gx xs h]
  rfl
/-- all are taken -/
theorem ev_lcA {α : Type} {enc : α → D} {src : FI} {tg : Tg} {el : FE} {r : Rho} (gx : α → D) {xs : List α} (h0 : src r = some (xs.map enc)) (hl : xs.length ≤ LIM) (h : ∀ x ∈ xs, ∃ r', tg.env (enc x) r = some r' ∧ el r' = some (gx x) ∧ nd (gx x) = true) : eLc src tg tTrue el r = some (.list (xs.map gx)) := by
  have := ev_lc (tt := tTrue) (fun _ => true) gx h0 hl fun x hx => by
    obtain ⟨r', h1, h2, h3⟩ := h x hx
    exact ⟨r', h1, rfl, fun _ => ⟨h2, h3⟩⟩
  rw [this, List.filter_eq_self.mpr (fun _ _ => rfl)]
/-! ### an item -/
theorem atD_nat {xs : List D} {i : Nat} {d : D} (h : xs[i]? = some d) : atD xs (i : Int) = some d := by
  obtain ⟨h1, h2⟩ := List.getElem?_eq_some_iff.mp h
  unfold atD ixN
  rw [if_pos ⟨Int.natCast_nonneg i, by omega⟩]
  simpa using h
theorem atD_map {α : Type} {f : α → D} {xs : List α} {i : Nat} {x : α} (h : xs[i]? = some x) : atD (xs.map f) (i : Int) = some (f x) := atD_nat (by rw [List.getElem?_map, h]; rfl)
theorem atD_int {xs : List D} {i : Int} {j : Nat} {d : D} (e : i = j) (h : xs[j]? = some d) : atD xs i = some d := by subst e; exact atD_nat h
theorem atD_last {xs : List D} {d : D} : atD (xs ++ [d]) (-1) = some d := by
  unfold atD ixN
  rw [if_neg (by omega), if_pos ⟨by decide, by rw [List.length_append]; simp; omega⟩]
  have e : ((-1 : Int) + ((xs ++ [d]).length : Nat)).toNat = xs.length := by rw [List.length_append]; simp; omega
  rw [Option.bind_some, e, List.getElem?_append_right (Nat.le_refl _)]
  simp
end Sk
/-! SkPure2: skies, states; the small defs -/
namespace Sk
open PySem
structure Look where
  w : Int
  st : Int
  ln : Int
  an : Int
  sz : Int
abbrev Ear := Int × Int × Int
structure Sky where
  looks : List Look
  worths : List Int
  ears : List Ear
  cap : Int
  turn : Int
def eLook (l : Look) : D := .tuple [.int l.w, .int l.st, .int l.ln, .int l.an, .int l.sz]
def eEar (e : Ear) : D := .tuple [.int e.1, .int e.2.1, .int e.2.2]
def eSky (S : Sky) : D := .tuple [.list (S.looks.map eLook), .list (S.worths.map .int), .list (S.ears.map eEar), .int S.cap, .int S.turn]
abbrev eN (n : Nat) : D := .int (n : Int)
abbrev eNs (ns : List Nat) : D := .tuple (ns.map eN)
structure St where
  look : Nat
  last : Option Nat
  amt : Int
  wi : List Int
  fl : List Nat
deriving DecidableEq
def eLast : Option Nat → Int
  | none => -1
  | some n => n
def eSt (s : St) : D := .tuple [.int s.look, .int (eLast s.last), .int s.amt, .tuple (s.wi.map .int), eNs s.fl]
def mvS (take : Bool) : D := if take then .str "take" else .str "leave"

/-! ### the small defs -/
theorem r_end_of {S : Sky} {i : Nat} {l : Look} (h : S.looks[i]? = some l) : s_end_of [eSky S, eN i] = some (.int (l.st + l.ln)) := by
  have h' := atD_map (f := eLook) h
  refine ev_run rfl ?_; unfold b_end_of; simp only [List.map_cons, List.map_nil, List.length_cons, List.length_nil, Nat.reduceAdd, Nat.reduceSub, List.replicate, List.cons_append, List.nil_append, Nat.zero_add, Nat.sub_self]
  (repeat' (first | with_reducible exact rfl | assumption | with_reducible apply ev_B | with_reducible apply ev_U | with_reducible apply ev_cons | with_reducible apply ev_app | with_reducible apply ev_tup | with_reducible apply ev_lst | with_reducible apply ev_F | with_reducible apply ev_T | with_reducible apply ev_Or | with_reducible apply ev_tC | with_reducible apply ev_tCh | with_reducible apply ev_And | with_reducible apply ev_tOr | with_reducible apply ev_Not | with_reducible apply ev_Tr | with_reducible apply ev_some | with_reducible apply ev_cut | with_reducible apply ev_iL | with_reducible apply ev_iT | with_reducible apply ev_iR | with_reducible apply ev_iRev | with_reducible apply ev_seq | with_reducible apply ev_asg | with_reducible apply ev_asgF | with_reducible apply ev_new | with_reducible apply ev_newD | with_reducible apply ev_par | with_reducible apply ev_ret | with_reducible apply ev_retN | with_reducible apply ev_aug | with_reducible apply ev_app1 | exact rfl))
def turnT (t x y : Int) : Int := -((-(if y - x < 0 then -(y - x) else y - x)) / t)
theorem r_turning {S : Sky} {i j : Nat} {l m : Look} (h : S.looks[i]? = some l) (g : S.looks[j]? = some m) (h0 : 0 < S.turn) (h1 : S.turn < 1073741824) : s_turning [eSky S, eN i, eN j] = some (.int (turnT S.turn l.an m.an)) := by
  have h' := atD_map (f := eLook) h
  have g' := atD_map (f := eLook) g
  have hd : ∀ a : Int, oDiv (.int a) (.int S.turn) = some (.int (a / S.turn)) := fun a => if_pos ⟨h0, h1⟩
  refine ev_run rfl ?_; unfold b_turning; simp only [List.map_cons, List.map_nil, List.length_cons, List.length_nil, Nat.reduceAdd, Nat.reduceSub, List.replicate, List.cons_append, List.nil_append, Nat.zero_add, Nat.sub_self]
  (repeat' (first | with_reducible exact rfl | assumption | exact hd _ | with_reducible apply ev_B | with_reducible apply ev_U | with_reducible apply ev_cons | with_reducible apply ev_app | with_reducible apply ev_tup | with_reducible apply ev_lst | with_reducible apply ev_F | with_reducible apply ev_T | with_reducible apply ev_Or | with_reducible apply ev_tC | with_reducible apply ev_tCh | with_reducible apply ev_And | with_reducible apply ev_tOr | with_reducible apply ev_Not | with_reducible apply ev_Tr | with_reducible apply ev_some | with_reducible apply ev_cut | with_reducible apply ev_iL | with_reducible apply ev_iT | with_reducible apply ev_iR | with_reducible apply ev_iRev | with_reducible apply ev_seq | with_reducible apply ev_asg | with_reducible apply ev_asgF | with_reducible apply ev_new | with_reducible apply ev_newD | with_reducible apply ev_par | with_reducible apply ev_ret | with_reducible apply ev_retN | with_reducible apply ev_aug | with_reducible apply ev_app1 | exact rfl))
/-- max(0, x) as the program has it -/
def mx0 (x : Int) : Int := if x > 0 then x else 0
def lossE (e : Ear) (since til : Int) : Int := e.2.2 * mx0 ((if e.2.1 < til then e.2.1 else til) - (if e.1 > since then e.1 else since))
def lossT (ears : List Ear) (since til : Int) : Int := ears.foldl (fun acc e => acc + lossE e since til) 0
def EarsOk (ears : List Ear) : Prop := ∀ e ∈ ears, 0 ≤ e.2.2 ∧ e.2.2 ≤ 1000
theorem r_loss {ears : List Ear} {since til : Int} (hr : EarsOk ears) : s_loss [.list (ears.map eEar), .int since, .int til] = some (.int (lossT ears since til)) := by
  refine ev_run rfl ?_; unfold b_loss; simp only [List.map_cons, List.map_nil, List.length_cons, List.length_nil, Nat.reduceAdd, Nat.reduceSub, List.replicate, List.cons_append, List.nil_append, Nat.zero_add, Nat.sub_self]
  refine ev_seq (ev_asg rfl rfl) (runs_go (runs_for (enc := eEar) (xs := ears) (fun done g => ∃ j1 j2 j3 : Sl, g = [.im (.list (ears.map eEar)), .im (.int since), .im (.int til), .im (.int (lossT done since til)), j1, j2, j3]) rfl ⟨_, _, _, rfl⟩ (fun done e rest he g ⟨j1, j2, j3, hg⟩ => ?_) fun g' h => h) fun g' ⟨j1, j2, j3, hg⟩ => ?_)
  · subst hg
    have hm : ∀ x : Int, oMul (.int e.2.2) (.int x) = some (.int (e.2.2 * x)) := fun x => if_pos (.inl (by have := hr e (by rw [he]; simp); omega))
    have hl : lossT (done ++ [e]) since til = lossT done since til + lossE e since til := by unfold lossT; rw [List.foldl_append]; rfl
    rw [hl]
    refine ⟨_, rfl, ?_⟩
    apply runs_of
    · (repeat' (first | with_reducible exact rfl | assumption | exact hm _ | with_reducible apply ev_B | with_reducible apply ev_U | with_reducible apply ev_cons | with_reducible apply ev_app | with_reducible apply ev_tup | with_reducible apply ev_lst | with_reducible apply ev_F | with_reducible apply ev_T | with_reducible apply ev_Or | with_reducible apply ev_tC | with_reducible apply ev_tCh | with_reducible apply ev_And | with_reducible apply ev_tOr | with_reducible apply ev_Not | with_reducible apply ev_Tr | with_reducible apply ev_some | with_reducible apply ev_cut | with_reducible apply ev_iL | with_reducible apply ev_iT | with_reducible apply ev_iR | with_reducible apply ev_iRev | with_reducible apply ev_seq | with_reducible apply ev_asg | with_reducible apply ev_asgF | with_reducible apply ev_new | with_reducible apply ev_newD | with_reducible apply ev_par | with_reducible apply ev_ret | with_reducible apply ev_retN | with_reducible apply ev_aug | with_reducible apply ev_app1 | exact rfl))
    · exact ⟨_, _, _, rfl⟩
  · subst hg
    (repeat' (first | with_reducible exact rfl | assumption | with_reducible apply ev_B | with_reducible apply ev_U | with_reducible apply ev_cons | with_reducible apply ev_app | with_reducible apply ev_tup | with_reducible apply ev_lst | with_reducible apply ev_F | with_reducible apply ev_T | with_reducible apply ev_Or | with_reducible apply ev_tC | with_reducible apply ev_tCh | with_reducible apply ev_And | with_reducible apply ev_tOr | with_reducible apply ev_Not | with_reducible apply ev_Tr | with_reducible apply ev_some | with_reducible apply ev_cut | with_reducible apply ev_iL | with_reducible apply ev_iT | with_reducible apply ev_iR | with_reducible apply ev_iRev | with_reducible apply ev_seq | with_reducible apply ev_asg | with_reducible apply ev_asgF | with_reducible apply ev_new | with_reducible apply ev_newD | with_reducible apply ev_par | with_reducible apply ev_ret | with_reducible apply ev_retN | with_reducible apply ev_aug | with_reducible apply ev_app1 | exact rfl))
theorem r_emptied {S : Sky} {a since til : Int} (hr : EarsOk S.ears) : s_emptied [eSky S, .int a, .int since, .int til] = some (.int (mx0 (a - lossT S.ears since til))) := by
  have h := r_loss (since := since) (til := til) hr
  refine ev_run rfl ?_; unfold b_emptied; simp only [List.map_cons, List.map_nil, List.length_cons, List.length_nil, Nat.reduceAdd, Nat.reduceSub, List.replicate, List.cons_append, List.nil_append, Nat.zero_add, Nat.sub_self]
  (repeat' (first | with_reducible exact rfl | assumption | with_reducible apply ev_B | with_reducible apply ev_U | with_reducible apply ev_cons | with_reducible apply ev_app | with_reducible apply ev_tup | with_reducible apply ev_lst | with_reducible apply ev_F | with_reducible apply ev_T | with_reducible apply ev_Or | with_reducible apply ev_tC | with_reducible apply ev_tCh | with_reducible apply ev_And | with_reducible apply ev_tOr | with_reducible apply ev_Not | with_reducible apply ev_Tr | with_reducible apply ev_some | with_reducible apply ev_cut | with_reducible apply ev_iL | with_reducible apply ev_iT | with_reducible apply ev_iR | with_reducible apply ev_iRev | with_reducible apply ev_seq | with_reducible apply ev_asg | with_reducible apply ev_asgF | with_reducible apply ev_new | with_reducible apply ev_newD | with_reducible apply ev_par | with_reducible apply ev_ret | with_reducible apply ev_retN | with_reducible apply ev_aug | with_reducible apply ev_app1 | exact rfl))
end Sk
/-! SkPure3: subsets, states -/
namespace Sk
open PySem
def unI : D → Int
  | .int i => i
  | _ => 0
/-- what is asked of the sort -/
structure Srt (srt : List D → List D) : Prop where
  perm : ∀ xs, (srt xs).Perm xs
  nums : ∀ xs ys : List Int, xs.Perm ys → srt (xs.map .int) = srt (ys.map .int)
  st : ∀ l ys : List St, srt (l.map eSt) = ys.map eSt → ys.Pairwise fun a b => a.look ≤ b.look
theorem perm_map {α β : Type} {f : α → β} : ∀ {l : List β} {m : List β}, l.Perm m → ∀ xs : List α, m = xs.map f → ∃ ys : List α, l = ys.map f ∧ ys.Perm xs := by
  intro l m h
  induction h with
  | nil =>
    intro xs e
    cases xs with
    | nil => exact ⟨[], rfl, .nil⟩
    | cons _ _ => cases e
  | cons x h ih =>
    intro xs e
    cases xs with
    | nil => cases e
    | cons y ys =>
      rw [List.map_cons] at e
      injection e with e1 e2
      obtain ⟨zs, q1, q2⟩ := ih ys e2
      exact ⟨y :: zs, by rw [List.map_cons, q1, e1], q2.cons y⟩
  | swap x y l =>
    intro xs e
    cases xs with
    | nil => cases e
    | cons a xs =>
      cases xs with
      | nil => cases e
      | cons b xs =>
        simp only [List.map_cons] at e
        injection e with e1 e2
        injection e2 with e2 e3
        exact ⟨b :: a :: xs, by simp [e1, e2, e3], .swap a b xs⟩
  | trans h1 h2 ih1 ih2 =>
    intro xs e
    obtain ⟨ys, q1, q2⟩ := ih2 xs e
    obtain ⟨zs, q3, q4⟩ := ih1 ys q1
    exact ⟨zs, q3, q4.trans q2⟩
theorem Srt.map {srt : List D → List D} (h : Srt srt) {α : Type} (f : α → D) (xs : List α) : ∃ ys : List α, srt (xs.map f) = ys.map f ∧ ys.Perm xs := perm_map (h.perm _) xs rfl
def sortI (srt : List D → List D) (xs : List Int) : List Int := (srt (xs.map .int)).map unI
theorem Srt.sortI {srt : List D → List D} (h : Srt srt) (xs : List Int) : srt (xs.map .int) = (Sk.sortI srt xs).map .int ∧ (Sk.sortI srt xs).Perm xs := by
  obtain ⟨ys, h1, h2⟩ := h.map .int xs
  have e : Sk.sortI srt xs = ys := by
    unfold Sk.sortI
    rw [h1, List.map_map]
    exact (List.map_congr_left (fun a _ => rfl)).trans (List.map_id ys)
  rw [e]
  exact ⟨h1, h2⟩
theorem Srt.sortI_perm {srt : List D → List D} (h : Srt srt) {xs ys : List Int} (p : xs.Perm ys) : Sk.sortI srt xs = Sk.sortI srt ys := by
  unfold Sk.sortI
  rw [h.nums xs ys p]

/-! ### small facts on data -/
theorem dInts_map : ∀ ns : List Int, dInts (ns.map .int) = some ns
  | [] => rfl
  | n :: ns => by rw [List.map_cons, dInts, dInts_map ns]; rfl
theorem dInts_nat (ns : List Nat) : dInts (ns.map eN) = some (ns.map fun (n : Nat) => (n : Int)) := by
  have := dInts_map (ns.map fun (n : Nat) => (n : Int))
  rw [List.map_map] at this
  exact this
theorem contains_nat (n : Nat) : ∀ ns : List Nat, (ns.map fun (n : Nat) => (n : Int)).contains (n : Int) = ns.contains n
  | [] => rfl
  | m :: ns => by
    rw [List.map_cons, List.contains_cons, List.contains_cons, contains_nat n ns]
    congr 1
    by_cases h : n = m
    · subst h; simp
    · have h' : (n : Int) ≠ (m : Int) := by omega
      rw [beq_eq_false_iff_ne.mpr h, beq_eq_false_iff_ne.mpr h']
theorem cNi_nat (n : Nat) (fl : List Nat) : cNi (eN n) (eNs fl) = some (!fl.contains n) := by
  show (cIn (.int n) (.tuple (fl.map eN))).map _ = _
  show ((dInts (fl.map eN)).map fun ns => ns.contains (n : Int)).map _ = _
  rw [dInts_nat, Option.map_some, Option.map_some, contains_nat]
theorem cIn_int (i : Int) (ns : List Int) : cIn (.int i) (.tuple (ns.map .int)) = some (ns.contains i) := by
  show (dInts _).map _ = _
  rw [dInts_map]; rfl
theorem cIn_intL (i : Int) (ns : List Int) : cIn (.int i) (.list (ns.map .int)) = some (ns.contains i) := by
  show (dInts _).map _ = _
  rw [dInts_map]; rfl
theorem fLen_map {α : Type} (f : α → D) (xs : List α) : fLen [.list (xs.map f)] = some (eN xs.length) := by
  show some (PyData.int ((xs.map f).length : Nat)) = _
  rw [List.length_map]
theorem fLen_mapT {α : Type} (f : α → D) (xs : List α) : fLen [.tuple (xs.map f)] = some (eN xs.length) := by
  show some (PyData.int ((xs.map f).length : Nat)) = _
  rw [List.length_map]

/-! ### what is left without some ears -/
abbrev e0 : Ear := (0, 0, 0)
def keepT (ears : List Ear) (fl : List Nat) : List Ear := ((List.range ears.length).filter fun n => !fl.contains n).map fun n => ears.getD n e0
def Sky.no (S : Sky) (fl : List Nat) : Sky := { S with ears := keepT S.ears fl }
theorem getD_of {α : Type} {xs : List α} {n : Nat} (d : α) (h : n < xs.length) : xs[n]? = some (xs.getD n d) := by
  rw [List.getD_eq_getElem?_getD, List.getElem?_eq_getElem h]; rfl
theorem lc_keep {S : Sky} {fl : List Nat} {src : FI} {t : Nat} {tt : FT} {el : FE} {r : Rho} (h0 : src r = some ((List.range S.ears.length).map eN)) (hl : S.ears.length ≤ LIM) (ht : ∀ n : Nat, tt (r.set t (some (eN n))) = some (!fl.contains n))
    (he : ∀ (n : Nat) (e : Ear), S.ears[n]? = some e → el (r.set t (some (eN n))) = some (eEar e)) : eLc src (.n t) tt el r = some (.list ((keepT S.ears fl).map eEar)) := by
  have := ev_lc (tg := .n t) (fun n => !fl.contains n) (fun n => eEar (S.ears.getD n e0)) h0 (by rw [List.length_range]; exact hl) fun n hn => ⟨_, rfl, ht n, fun _ => ⟨he n _ (getD_of e0 (List.mem_range.mp hn)), rfl⟩⟩
  rw [this]
  unfold keepT
  rw [List.map_map]
  rfl
theorem r_without_ears {S : Sky} {fl : List Nat} (hl : S.ears.length ≤ LIM) : s_without_ears [eSky S, eNs fl] = some (eSky (S.no fl)) := by
  have h1 := fLen_map eEar S.ears
  refine ev_run rfl ?_; unfold b_without_ears; simp only [List.map_cons, List.map_nil, List.length_cons, List.length_nil, Nat.reduceAdd, Nat.reduceSub, List.replicate, List.cons_append, List.nil_append, Nat.zero_add, Nat.sub_self]
  refine ev_seq (ev_asg rfl rfl) (ev_seq (ev_asg (lc_keep (S := S) (fl := fl) (ev_iR (ev_F (ev_cons rfl rfl) h1) hl) hl (fun n => ?_) fun n e he => ?_) rfl) ?_)
  · exact ev_tC rfl rfl (cNi_nat n fl)
  · exact ev_B rfl rfl (atD_map he)
  · (repeat' (first | with_reducible exact rfl | assumption | with_reducible apply ev_B | with_reducible apply ev_U | with_reducible apply ev_cons | with_reducible apply ev_app | with_reducible apply ev_tup | with_reducible apply ev_lst | with_reducible apply ev_F | with_reducible apply ev_T | with_reducible apply ev_Or | with_reducible apply ev_tC | with_reducible apply ev_tCh | with_reducible apply ev_And | with_reducible apply ev_tOr | with_reducible apply ev_Not | with_reducible apply ev_Tr | with_reducible apply ev_some | with_reducible apply ev_cut | with_reducible apply ev_iL | with_reducible apply ev_iT | with_reducible apply ev_iR | with_reducible apply ev_iRev | with_reducible apply ev_seq | with_reducible apply ev_asg | with_reducible apply ev_asgF | with_reducible apply ev_new | with_reducible apply ev_newD | with_reducible apply ev_par | with_reducible apply ev_ret | with_reducible apply ev_retN | with_reducible apply ev_aug | with_reducible apply ev_app1 | exact rfl))
theorem r_law_without {S : Sky} {fl : List Nat} (hl : S.ears.length ≤ LIM) : s_law_without [eSky S, eNs fl] = some (eSky (S.no fl)) := by
  have h1 := fLen_map eEar S.ears
  refine ev_run rfl ?_; unfold b_law_without; simp only [List.map_cons, List.map_nil, List.length_cons, List.length_nil, Nat.reduceAdd, Nat.reduceSub, List.replicate, List.cons_append, List.nil_append, Nat.zero_add, Nat.sub_self]
  have h2 : ∀ r : Rho, r[0]? = some (some (eSky S)) → r[1]? = some (some (eNs fl)) → eLc (iR (eF fLen (aCons (eB oIx (eV 0) (eC (.int 2))) aNil))) (.n 2) (tC cNi (eV 2) (eV 1)) (eB oIx (eB oIx (eV 0) (eC (.int 2))) (eV 2)) [some (eSky S), some (eNs fl), none] = some (.list ((keepT S.ears fl).map eEar)) := fun r _ _ =>
    lc_keep (S := S) (fl := fl) (ev_iR (ev_F (ev_cons rfl rfl) h1) hl) hl (fun n => ev_tC rfl rfl (cNi_nat n fl)) fun n e he => ev_B rfl rfl (atD_map he)
  have h3 := h2 [some (eSky S), some (eNs fl), none] rfl rfl
  show _ = some (Out.rt (PyData.tuple [_, _, .list ((keepT S.ears fl).map eEar), _, _]))
  (repeat' (first | with_reducible exact rfl | assumption | exact h3 | with_reducible apply ev_B | with_reducible apply ev_U | with_reducible apply ev_cons | with_reducible apply ev_app | with_reducible apply ev_tup | with_reducible apply ev_lst | with_reducible apply ev_F | with_reducible apply ev_T | with_reducible apply ev_Or | with_reducible apply ev_tC | with_reducible apply ev_tCh | with_reducible apply ev_And | with_reducible apply ev_tOr | with_reducible apply ev_Not | with_reducible apply ev_Tr | with_reducible apply ev_some | with_reducible apply ev_cut | with_reducible apply ev_iL | with_reducible apply ev_iT | with_reducible apply ev_iR | with_reducible apply ev_iRev | with_reducible apply ev_seq | with_reducible apply ev_asg | with_reducible apply ev_asgF | with_reducible apply ev_new | with_reducible apply ev_newD | with_reducible apply ev_par | with_reducible apply ev_ret | with_reducible apply ev_retN | with_reducible apply ev_aug | with_reducible apply ev_app1 | exact rfl))

/-! ### subsets -/
def growT (acc : List (List Nat)) (n : Nat) : List (List Nat) := acc ++ acc.map (· ++ [n])
def waysA (names : List Nat) (failed : List Nat) : List (List Nat) := names.foldl growT [failed]
def waysT (names : List Nat) (failed : List Nat) (most : Int) : List (List Nat) := (waysA names failed).filter fun w => decide ((w.length : Int) ≤ most)
theorem waysA_snoc (names : List Nat) (n : Nat) (failed : List Nat) : waysA (names ++ [n]) failed = growT (waysA names failed) n := by unfold waysA; rw [List.foldl_append]; rfl
theorem waysA_len (names : List Nat) (failed : List Nat) : (waysA names failed).length = 2 ^ names.length := by
  have : ∀ (names : List Nat) (acc : List (List Nat)), (names.foldl growT acc).length = acc.length * 2 ^ names.length := by
    intro names
    induction names with
    | nil => intro acc; simp
    | cons n ns ih =>
      intro acc
      rw [List.foldl_cons, ih, List.length_cons, Nat.pow_succ]
      unfold growT
      rw [List.length_append, List.length_map]
      rw [← Nat.mul_two, Nat.mul_assoc, Nat.mul_comm 2]
  rw [waysA, this]
  simp
theorem waysA_mem {names failed w : List Nat} (h : w ∈ waysA names failed) : ∃ sub, sub.Sublist names ∧ w = failed ++ sub := by
  have : ∀ (names : List Nat) (acc : List (List Nat)), w ∈ names.foldl growT acc → ∃ a ∈ acc, ∃ sub, sub.Sublist names ∧ w = a ++ sub := by
    intro names
    induction names with
    | nil => intro acc h; exact ⟨w, h, [], .slnil, by simp⟩
    | cons n ns ih =>
      intro acc h
      obtain ⟨a, ha, sub, hs, e⟩ := ih _ h
      unfold growT at ha
      rcases List.mem_append.mp ha with ha | ha
      · exact ⟨a, ha, sub, hs.cons n, e⟩
      · obtain ⟨b, hb, rfl⟩ := List.mem_map.mp ha
        exact ⟨b, hb, n :: sub, hs.cons_cons n, by rw [e]; simp⟩
  obtain ⟨a, ha, sub, hs, e⟩ := this names [failed] h
  rw [List.mem_singleton.mp ha] at e
  exact ⟨sub, hs, e⟩
theorem waysA_of {names failed sub : List Nat} (h : sub.Sublist names) : failed ++ sub ∈ waysA names failed := by
  have : ∀ {names sub : List Nat}, sub.Sublist names → ∀ (acc : List (List Nat)) (a : List Nat), a ∈ acc → a ++ sub ∈ names.foldl growT acc := by
    intro names sub h
    induction h with
    | slnil => intro acc a ha; simpa using ha
    | cons n _ ih => intro acc a ha; exact ih _ a (List.mem_append_left _ ha)
    | cons_cons n _ ih =>
      intro acc a ha
      have := ih (growT acc n) (a ++ [n]) (List.mem_append_right _ (List.mem_map.mpr ⟨a, ha, rfl⟩))
      simpa using this
  exact this h [failed] failed (List.mem_singleton.mpr rfl)
theorem waysT_mem {names failed w : List Nat} {most : Int} : w ∈ waysT names failed most ↔ (∃ sub, sub.Sublist names ∧ w = failed ++ sub) ∧ (w.length : Int) ≤ most := by
  unfold waysT
  rw [List.mem_filter, decide_eq_true_iff]
  exact ⟨fun ⟨h1, h2⟩ => ⟨waysA_mem h1, h2⟩, fun ⟨⟨sub, h1, h2⟩, h3⟩ => ⟨by rw [h2]; exact waysA_of h1, h3⟩⟩
theorem isInts_ns (ns : List Nat) : isInts (eNs ns) = true := List.all_eq_true.mpr fun d hd => by
  obtain ⟨n, _, rfl⟩ := List.mem_map.mp hd
  rfl
theorem waysA_head (names failed : List Nat) : ∃ r, waysA names failed = failed :: r := by
  have : ∀ (names : List Nat) (a : List Nat) (acc : List (List Nat)), ∃ r, names.foldl growT (a :: acc) = a :: r := by
    intro names
    induction names with
    | nil => intro a acc; exact ⟨acc, rfl⟩
    | cons n ns ih => intro a acc; exact ih a _
  exact this names failed []
theorem ways_sortable (names failed : List Nat) {most : Int} (hm : 0 ≤ most) : sortable ((waysT names failed most).map eNs) = true := by
  have h : isTups ((waysT names failed most).map eNs) = true := by
    cases failed with
    | nil =>
      obtain ⟨r, hr⟩ := waysA_head names []
      unfold waysT
      rw [hr, List.filter_cons_of_pos (by simpa using hm), List.map_cons]
      show List.all _ isInts = true
      exact List.all_eq_true.mpr fun d hd => by
        obtain ⟨w, _, rfl⟩ := List.mem_map.mp hd
        exact isInts_ns w
    | cons f fs =>
      have h1 : ∀ d ∈ (waysT names (f :: fs) most).map eNs, isInts1 d = true := fun d hd => by
        obtain ⟨w, hw, rfl⟩ := List.mem_map.mp hd
        obtain ⟨⟨sub, _, rfl⟩, _⟩ := waysT_mem.mp hw
        exact isInts_ns (f :: (fs ++ sub))
      have h2 := List.all_eq_true.mpr h1
      unfold isTups
      split
      · rename_i r e
        rw [e] at h1
        have := h1 (.tuple []) (List.mem_cons_self ..)
        cases this
      · exact h2
  unfold sortable
  rw [h, Bool.or_true]
  rfl
theorem r_ways_of {srt : List D → List D} {names failed : List Nat} {most : Int} (hn : names.length ≤ 10) (hf : failed.length ≤ 100) (hm : 0 ≤ most) : s_ways_of srt [.list (names.map eN), eNs failed, .int most] = some (.list (srt ((waysT names failed most).map eNs))) := by
  have hL : LIM = 16777216 := rfl
  have hb : ∀ done rest : List Nat, names = done ++ rest → (waysA done failed).length ≤ 1024 := fun done rest e => by
    rw [waysA_len]
    have : done.length ≤ 10 := by rw [e, List.length_append] at hn; omega
    exact Nat.le_trans (Nat.pow_le_pow_right (by decide) this) (by decide)
  refine ev_run rfl ?_; unfold b_ways_of; simp only [List.map_cons, List.map_nil, List.length_cons, List.length_nil, Nat.reduceAdd, Nat.reduceSub, List.replicate, List.cons_append, List.nil_append, Nat.zero_add, Nat.sub_self]
  refine ev_seq (ev_asg (ev_lst (ev_cons (ev_F (ev_cons rfl rfl) rfl) rfl)) rfl) (runs_go (runs_for (enc := eN) (xs := names) (fun done g => ∃ j4 j5 : Sl, g = [.im (.list (names.map eN)), .im (eNs failed), .im (.int most), .im (.list ((waysA done failed).map eNs)), j4, j5]) rfl ⟨_, _, rfl⟩ (fun done n rest he g ⟨j4, j5, hg⟩ => ?_) fun g' h => h) fun g' ⟨j4, j5, hg⟩ => ?_)
  · subst hg
    have b1 := hb done (n :: rest) he
    have hdl : done.length ≤ 10 := by rw [he, List.length_append] at hn; omega
    refine ⟨_, rfl, ?_⟩
    have hlc : eLc (iL (eV 3)) (.n 5) tTrue (eB oCatT (eV 5) (eTup (aCons (eV 4) aNil))) (vI [.im (.list (names.map eN)), .im (eNs failed), .im (.int most), .im (.list ((waysA done failed).map eNs)), .im (eN n), j5]) = some (.list ((waysA done failed).map fun w => eNs (w ++ [n]))) :=
      ev_lcA (enc := eNs) (fun w => eNs (w ++ [n])) (xs := waysA done failed) (ev_iL rfl) (by omega) fun w hw => by
        obtain ⟨sub, hs, rfl⟩ := waysA_mem hw
        have := hs.length_le
        refine ⟨_, rfl, ev_B rfl (ev_tup (ev_cons rfl rfl)) ?_, rfl⟩
        show (if _ then _ else _) = _
        rw [if_pos (by simp only [List.length_map, List.length_append, List.length_cons, List.length_nil]; omega)]
        show some (PyData.tuple (List.map eN (failed ++ sub) ++ [eN n])) = _
        rw [show eNs (failed ++ sub ++ [n]) = PyData.tuple (List.map eN (failed ++ sub ++ [n])) from rfl, List.map_append (l₁ := failed ++ sub)]
        rfl
    have hcat : oCatL (.list ((waysA done failed).map eNs)) (.list ((waysA done failed).map fun w => eNs (w ++ [n]))) = some (.list ((waysA done failed).map eNs ++ (waysA done failed).map fun w => eNs (w ++ [n]))) := if_pos (by rw [List.length_map, List.length_map]; omega)
    apply runs_of
    · exact ev_asg (ev_B rfl hlc hcat) rfl
    · rw [waysA_snoc]
      unfold growT
      rw [List.map_append, List.map_map]
      exact ⟨_, _, rfl⟩
  · subst hg
    have b1 := hb names [] (by simp)
    refine ev_ret (ev_F (ev_cons (ev_lc (enc := eNs) (fun w => decide ((w.length : Int) ≤ most)) eNs (xs := waysA names failed) (ev_iL rfl) (by omega) fun w hw => ⟨_, rfl, ev_tC (ev_F (ev_cons rfl rfl) (fLen_mapT eN w)) rfl rfl, fun _ => ⟨rfl, rfl⟩⟩) rfl) ?_)
    exact if_pos (ways_sortable names failed hm)
end Sk
/-! SkPure4: moves and what is behind them -/
namespace Sk
open PySem
/-- what the program asks of a sky -/
structure SkyOk (S : Sky) : Prop where
  ears : EarsOk S.ears
  earsN : S.ears.length ≤ 3
  looksN : S.looks.length ≤ 5
  t0 : 0 < S.turn
  t1 : S.turn < 1073741824
  w : ∀ l ∈ S.looks, 0 ≤ l.w ∧ l.w.toNat < S.worths.length
theorem keep_ok {ears : List Ear} (h : EarsOk ears) (fl : List Nat) : EarsOk (keepT ears fl) := fun e he => by
  unfold keepT at he
  obtain ⟨n, hn, rfl⟩ := List.mem_map.mp he
  have := getD_of e0 (List.mem_range.mp (List.mem_filter.mp hn).1)
  exact h _ (List.mem_of_getElem? this)
structure StOk (S : Sky) (most : Int) (s : St) : Prop where
  look : s.look < S.looks.length
  last : ∀ p, s.last = some p → p < S.looks.length
  fl : (s.fl.length : Int) ≤ most
  wi : s.wi.length ≤ s.look
abbrev l0 : Look := ⟨0, 0, 0, 0, 0⟩
def lkT (S : Sky) (i : Nat) : Look := S.looks.getD i l0
theorem lk_at {S : Sky} {i : Nat} (h : i < S.looks.length) : S.looks[i]? = some (lkT S i) := getD_of l0 h
def begT (ears : List Ear) (since til : Int) : List Nat := (List.range ears.length).filter fun n => decide (since < (ears.getD n e0).1) && decide ((ears.getD n e0).1 ≤ til)
theorem begT_le (ears : List Ear) (since til : Int) : (begT ears since til).length ≤ ears.length := by
  have := List.length_filter_le (fun n => decide (since < (ears.getD n e0).1) && decide ((ears.getD n e0).1 ≤ til)) (List.range ears.length)
  rw [List.length_range] at this
  exact this
theorem r_begun_between {S : Sky} {since til : Int} (hl : S.ears.length ≤ 3) : s_begun_between [eSky S, .int since, .int til] = some (.list ((begT S.ears since til).map eN)) := by
  have h1 := fLen_map eEar S.ears
  have hL : LIM = 16777216 := rfl
  refine ev_run rfl ?_; unfold b_begun_between; simp only [List.map_cons, List.map_nil, List.length_cons, List.length_nil, Nat.reduceAdd, Nat.reduceSub, List.replicate, List.cons_append, List.nil_append, Nat.zero_add, Nat.sub_self]
  refine ev_ret (ev_lc (enc := eN) (fun n => decide (since < (S.ears.getD n e0).1) && decide ((S.ears.getD n e0).1 ≤ til)) eN (xs := List.range S.ears.length) (ev_iR (ev_F (ev_cons (ev_B rfl rfl rfl) rfl) h1) (by omega)) (by rw [List.length_range]; omega) fun n hn => ⟨_, rfl, ?_, fun _ => ⟨rfl, rfl⟩⟩)
  have h2 := atD_map (f := eEar) (getD_of e0 (List.mem_range.mp hn))
  (repeat' (first | with_reducible exact rfl | assumption | with_reducible apply ev_B | with_reducible apply ev_U | with_reducible apply ev_cons | with_reducible apply ev_app | with_reducible apply ev_tup | with_reducible apply ev_lst | with_reducible apply ev_F | with_reducible apply ev_T | with_reducible apply ev_Or | with_reducible apply ev_tC | with_reducible apply ev_tCh | with_reducible apply ev_And | with_reducible apply ev_tOr | with_reducible apply ev_Not | with_reducible apply ev_Tr | with_reducible apply ev_some | with_reducible apply ev_cut | with_reducible apply ev_iL | with_reducible apply ev_iT | with_reducible apply ev_iR | with_reducible apply ev_iRev | with_reducible apply ev_seq | with_reducible apply ev_asg | with_reducible apply ev_asgF | with_reducible apply ev_new | with_reducible apply ev_newD | with_reducible apply ev_par | with_reducible apply ev_ret | with_reducible apply ev_retN | with_reducible apply ev_aug | with_reducible apply ev_app1 | exact rfl))
def firstT (S : Sky) (most : Int) : List St := if S.looks.length = 0 then [] else (waysT (begT S.ears (-1) (lkT S 0).st) [] most).map fun f => ⟨0, none, 0, [], f⟩
theorem r_first_states {srt : List D → List D} (hs : Srt srt) {S : Sky} {most : Int} (ok : SkyOk S) (hm : 0 ≤ most) : ∃ ys : List St, s_first_states srt [eSky S, .int most] = some (.list (ys.map eSt)) ∧ ys.Perm (firstT S most) := by
  have hL : LIM = 16777216 := rfl
  by_cases h0 : S.looks.length = 0
  · refine ⟨[], ?_, by unfold firstT; rw [if_pos h0]⟩
    refine ev_run rfl ?_; unfold b_first_states; simp only [List.map_cons, List.map_nil, List.length_cons, List.length_nil, Nat.reduceAdd, Nat.reduceSub, List.replicate, List.cons_append, List.nil_append, Nat.zero_add, Nat.sub_self]
    have e : S.looks = [] := List.length_eq_zero_iff.mp h0
    refine ev_seqR (ev_ifT (ev_Not (ev_Tr (k := false) (ev_B rfl rfl rfl) ?_)) (ev_retN rfl))
    rw [e]; rfl
  · have hn : 0 < S.looks.length := by omega
    obtain ⟨ws, h1, h2⟩ := hs.map eNs (waysT (begT S.ears (-1) (lkT S 0).st) [] most)
    have hb := begT_le S.ears (-1) (lkT S 0).st
    have hw := r_ways_of (srt := srt) (names := begT S.ears (-1) (lkT S 0).st) (failed := []) (most := most) (by have := ok.earsN; omega) (by simp) hm
    rw [h1] at hw
    have hbb := r_begun_between (since := -1) (til := (lkT S 0).st) ok.earsN
    have hl := atD_map (f := eLook) (lk_at hn)
    have hlen : ws.length ≤ LIM := by
      rw [h2.length_eq]
      have h3 := List.length_filter_le (fun w : List Nat => decide ((w.length : Int) ≤ most)) (waysA (begT S.ears (-1) (lkT S 0).st) [])
      rw [waysA_len] at h3
      have h4 : (begT S.ears (-1) (lkT S 0).st).length ≤ 3 := by have := ok.earsN; omega
      have h5 : 2 ^ (begT S.ears (-1) (lkT S 0).st).length ≤ 2 ^ 3 := Nat.pow_le_pow_right (by decide) h4
      unfold waysT
      omega
    refine ⟨ws.map fun f => ⟨0, none, 0, [], f⟩, ?_, by unfold firstT; rw [if_neg h0]; exact h2.map _⟩
    refine ev_run rfl ?_; unfold b_first_states; simp only [List.map_cons, List.map_nil, List.length_cons, List.length_nil, Nat.reduceAdd, Nat.reduceSub, List.replicate, List.cons_append, List.nil_append, Nat.zero_add, Nat.sub_self]
    have ht : truth (.list (S.looks.map eLook)) = some true := by
      cases e : S.looks with
      | nil => rw [e] at hn; simp at hn
      | cons _ _ => rfl
    refine ev_seq (ev_ifF (ev_Not (ev_Tr (k := true) (ev_B rfl rfl rfl) ht)) rfl) (ev_seq (ev_asg (ev_F (ev_cons rfl (ev_cons (ev_U rfl rfl) (ev_cons (ev_B (ev_B (ev_B rfl rfl rfl) rfl hl) rfl rfl) rfl))) hbb) rfl) (ev_retN ?_))
    have := ev_lcA (enc := eNs) (tg := .n 3) (el := eTup (aCons (eC (.int 0)) (aCons (eU oNeg (eC (.int 1))) (aCons (eC (.int 0)) (aCons (eTup aNil) (aCons (eV 3) aNil)))))) (src := iL (eF (s_ways_of srt) (aCons (eV 2) (aCons (eTup aNil) (aCons (eV 1) aNil))))) (r := [some (eSky S), some (.int most), some (.list ((begT S.ears (-1) (lkT S 0).st).map eN)), none]) (fun f => eSt ⟨0, none, 0, [], f⟩) (xs := ws) (ev_iL (ev_F (ev_cons rfl (ev_cons rfl (ev_cons rfl rfl))) hw)) hlen fun f hf => ⟨_, rfl, rfl, rfl⟩
    rw [List.map_map]
    exact this

/-! ### may it be taken -/
def mayT (S : Sky) (s : St) : Bool := !(s.wi.contains (lkT S s.look).w || decide (S.cap < s.amt + (lkT S s.look).sz)) && match s.last with
  | none => true
  | some p => decide ((lkT S p).st + (lkT S p).ln + turnT S.turn (lkT S p).an (lkT S s.look).an ≤ (lkT S s.look).st)
theorem r_may_take {S : Sky} {most : Int} {s : St} (ok : SkyOk S) (hs : StOk S most s) : s_may_take [eSky S, eSt s] = some (.bool (mayT S s)) := by
  have hl := atD_map (f := eLook) (lk_at hs.look)
  have hin := cIn_int (lkT S s.look).w s.wi
  refine ev_run rfl ?_; unfold b_may_take; simp only [List.map_cons, List.map_nil, List.length_cons, List.length_nil, Nat.reduceAdd, Nat.reduceSub, List.replicate, List.cons_append, List.nil_append, Nat.zero_add, Nat.sub_self]
  refine ev_seq (ev_asg rfl rfl) (ev_seq (ev_asg (ev_B (ev_B rfl rfl rfl) rfl hl) rfl) ?_)
  have ht : tOr (tC cIn (eV 7) (eV 5)) (tC cGt (eB oAdd (eV 4) (eV 11)) (eB oIx (eV 0) (eC (.int 3)))) (vA [.im (eSky S), .im (eSt s), .im (eN s.look), .im (.int (eLast s.last)), .im (.int s.amt), .im (.tuple (s.wi.map .int)), .im (eNs s.fl), .im (.int (lkT S s.look).w), .im (.int (lkT S s.look).st), .im (.int (lkT S s.look).ln), .im (.int (lkT S s.look).an), .im (.int (lkT S s.look).sz)]) = some (s.wi.contains (lkT S s.look).w || decide (S.cap < s.amt + (lkT S s.look).sz)) := by
    (repeat' (first | with_reducible exact rfl | assumption | with_reducible apply ev_B | with_reducible apply ev_U | with_reducible apply ev_cons | with_reducible apply ev_app | with_reducible apply ev_tup | with_reducible apply ev_lst | with_reducible apply ev_F | with_reducible apply ev_T | with_reducible apply ev_Or | with_reducible apply ev_tC | with_reducible apply ev_tCh | with_reducible apply ev_And | with_reducible apply ev_tOr | with_reducible apply ev_Not | with_reducible apply ev_Tr | with_reducible apply ev_some | with_reducible apply ev_cut | with_reducible apply ev_iL | with_reducible apply ev_iT | with_reducible apply ev_iR | with_reducible apply ev_iRev | with_reducible apply ev_seq | with_reducible apply ev_asg | with_reducible apply ev_asgF | with_reducible apply ev_new | with_reducible apply ev_newD | with_reducible apply ev_par | with_reducible apply ev_ret | with_reducible apply ev_retN | with_reducible apply ev_aug | with_reducible apply ev_app1 | exact rfl))
  cases hk : (s.wi.contains (lkT S s.look).w || decide (S.cap < s.amt + (lkT S s.look).sz)) with
  | true =>
    rw [hk] at ht
    unfold mayT
    rw [hk]
    exact ev_seqR (ev_ifT ht (ev_ret rfl))
  | false =>
    rw [hk] at ht
    unfold mayT
    rw [hk]
    refine ev_seq (ev_ifF ht rfl) (ev_ret ?_)
    cases hq : s.last with
    | none =>
      refine Eq.trans (b := some (PyData.bool true)) ?_ rfl
      unfold eOr
      rw [ev_T (k := true) (ev_tC rfl rfl rfl), Option.bind_some]
    | some p =>
      have hp := hs.last p hq
      have he := r_end_of (lk_at hp)
      have htt := r_turning (lk_at hp) (lk_at hs.look) ok.t0 ok.t1
      have hlt : cLt (.int (eLast (some p))) (.int 0) = some false := congrArg some (decide_eq_false (by show ¬ ((p : Int) < 0); omega))
      refine ev_Or (k := false) (ev_T (ev_tC rfl rfl hlt)) (ev_T (ev_tC (ev_B (ev_F (ev_cons rfl (ev_cons rfl rfl)) he) (ev_F (ev_cons rfl (ev_cons rfl (ev_cons rfl rfl))) htt) rfl) rfl rfl))
def movesT (S : Sky) (s : St) : List Bool := if mayT S s then [false, true] else [false]
theorem r_moves_of {S : Sky} {most : Int} {s : St} (ok : SkyOk S) (hs : StOk S most s) : s_moves_of [eSky S, eSt s] = some (.list ((movesT S s).map mvS)) := by
  have h := r_may_take ok hs
  refine ev_run rfl ?_; unfold b_moves_of; simp only [List.map_cons, List.map_nil, List.length_cons, List.length_nil, Nat.reduceAdd, Nat.reduceSub, List.replicate, List.cons_append, List.nil_append, Nat.zero_add, Nat.sub_self]
  unfold movesT
  cases hk : mayT S s with
  | true => exact ev_seqR (ev_ifT (ev_Tr (ev_F (ev_cons rfl (ev_cons rfl rfl)) h) (by rw [hk]; rfl)) (ev_ret rfl))
  | false => exact ev_seq (ev_ifF (ev_Tr (ev_F (ev_cons rfl (ev_cons rfl rfl)) h) (by rw [hk]; rfl)) rfl) (ev_ret rfl)
def gainT (S : Sky) (s : St) (take : Bool) : Int := if take then S.worths.getD (lkT S s.look).w.toNat 0 else 0
theorem worth_at {S : Sky} (ok : SkyOk S) {i : Nat} (h : i < S.looks.length) : atD (S.worths.map .int) (lkT S i).w = some (.int (S.worths.getD (lkT S i).w.toNat 0)) := by
  obtain ⟨h1, h2⟩ := ok.w _ (List.mem_of_getElem? (lk_at h))
  exact atD_int (j := (lkT S i).w.toNat) (by omega) (by rw [List.getElem?_map, getD_of 0 h2]; rfl)
theorem r_gain_of {S : Sky} {most : Int} {s : St} (ok : SkyOk S) (hs : StOk S most s) (take : Bool) : s_gain_of [eSky S, eSt s, mvS take] = some (.int (gainT S s take)) := by
  have hl := atD_map (f := eLook) (lk_at hs.look)
  have hw := worth_at ok hs.look
  refine ev_run rfl ?_; unfold b_gain_of; simp only [List.map_cons, List.map_nil, List.length_cons, List.length_nil, Nat.reduceAdd, Nat.reduceSub, List.replicate, List.cons_append, List.nil_append, Nat.zero_add, Nat.sub_self]
  cases take with
  | true => exact ev_seqR (ev_ifT (ev_tC rfl rfl rfl) (ev_ret (ev_B (ev_B rfl rfl rfl) (ev_B (ev_B (ev_B rfl rfl rfl) (ev_B rfl rfl rfl) hl) rfl rfl) hw)))
  | false => exact ev_seq (ev_ifF (ev_tC rfl rfl rfl) rfl) (ev_ret rfl)

/-! ### the store -/
def amtT (S : Sky) (ears : List Ear) (a : Int) (last : Option Nat) (since til : Int) : Int := match last with
  | none => mx0 (a - lossT ears since til)
  | some p => let e := (lkT S p).st + (lkT S p).ln
    if since < e ∧ e ≤ til then mx0 (mx0 (a - lossT ears since e) + (lkT S p).sz - lossT ears e til) else mx0 (a - lossT ears since til)
theorem r_amount_behind {S : Sky} {a since til : Int} {last : Option Nat} (he : EarsOk S.ears) (hl : ∀ p, last = some p → p < S.looks.length) : s_amount_behind [eSky S, .int a, .int (eLast last), .int since, .int til] = some (.int (amtT S S.ears a last since til)) := by
  refine ev_run rfl ?_; unfold b_amount_behind; simp only [List.map_cons, List.map_nil, List.length_cons, List.length_nil, Nat.reduceAdd, Nat.reduceSub, List.replicate, List.cons_append, List.nil_append, Nat.zero_add, Nat.sub_self]
  cases last with
  | none =>
    have h1 := r_emptied (S := S) (a := a) (since := since) (til := til) he
    exact ev_seq (ev_ifF (ev_AndP (k := false) (l := false) (ev_tC rfl rfl rfl) (fun z => by cases z)) rfl) (ev_ret (ev_F (ev_app (ev_cons rfl (ev_cons rfl rfl)) (ev_cons rfl (ev_cons rfl rfl))) h1))
  | some p =>
    have hp := hl p rfl
    have hend := r_end_of (lk_at hp)
    have hlk := atD_map (f := eLook) (lk_at hp)
    have hge : cGe (.int (eLast (some p))) (.int 0) = some true := congrArg some (decide_eq_true (show (0 : Int) ≤ (p : Int) by omega))
    have ht := ev_AndP (s := tC cGe (eV 2) (eC (.int 0))) (t := tCh cLt cLe (eV 3) (eF s_end_of (aCons (eV 0) (aCons (eV 2) aNil))) (eV 4)) (r := vA [.im (eSky S), .im (.int a), .im (.int (eLast (some p))), .im (.int since), .im (.int til), .no]) (ev_tC rfl rfl hge) (fun _ => ev_tCh (k := decide (since < (lkT S p).st + (lkT S p).ln)) (l := decide ((lkT S p).st + (lkT S p).ln ≤ til)) rfl (ev_F (ev_cons rfl (ev_cons rfl rfl)) hend) rfl rfl rfl)
    by_cases c : since < (lkT S p).st + (lkT S p).ln ∧ (lkT S p).st + (lkT S p).ln ≤ til
    · rw [decide_eq_true c.1, decide_eq_true c.2] at ht
      have h1 := r_emptied (S := S) (a := a) (since := since) (til := (lkT S p).st + (lkT S p).ln) he
      have h2 := r_emptied (S := S) (a := mx0 (a - lossT S.ears since ((lkT S p).st + (lkT S p).ln)) + (lkT S p).sz) (since := (lkT S p).st + (lkT S p).ln) (til := til) he
      show _ = some (Out.rt (PyData.int (if _ then _ else _)))
      rw [if_pos c]
      exact ev_seq (ev_ifT ht (ev_seq (ev_asg (ev_F (ev_cons rfl (ev_cons rfl rfl)) hend) rfl) (ev_seq (ev_asg (ev_B (ev_F (ev_app (ev_cons rfl (ev_cons rfl rfl)) (ev_cons rfl (ev_cons rfl rfl))) h1) (ev_B (ev_B (ev_B rfl rfl rfl) rfl hlk) rfl rfl) rfl) rfl) (ev_asg rfl rfl)))) (ev_ret (ev_F (ev_app (ev_cons rfl (ev_cons rfl rfl)) (ev_cons rfl (ev_cons rfl rfl))) h2))
    · have hk : (true && (decide (since < (lkT S p).st + (lkT S p).ln) && decide ((lkT S p).st + (lkT S p).ln ≤ til))) = false := by
        rw [Bool.true_and, ← Bool.decide_and]
        exact decide_eq_false c
      rw [hk] at ht
      have h1 := r_emptied (S := S) (a := a) (since := since) (til := til) he
      show _ = some (Out.rt (PyData.int (if _ then _ else _)))
      rw [if_neg c]
      exact ev_seq (ev_ifF ht rfl) (ev_ret (ev_F (ev_app (ev_cons rfl (ev_cons rfl rfl)) (ev_cons rfl (ev_cons rfl rfl))) h1))
end Sk
/-! SkPure5: the states behind, values by state -/
namespace Sk
open PySem
section
variable {srt : List D → List D}
def lastT (s : St) (take : Bool) : Option Nat := if take then some s.look else s.last
def wiT (srt : List D → List D) (S : Sky) (s : St) (take : Bool) : List Int := if take then sortI srt (s.wi ++ [(lkT S s.look).w]) else s.wi
def mkT (srt : List D → List D) (S : Sky) (s : St) (take : Bool) (f : List Nat) : St :=
  ⟨s.look + 1, lastT s take, amtT S (keepT S.ears f) s.amt (lastT s take) (lkT S s.look).st (lkT S (s.look + 1)).st, wiT srt S s take, f⟩
def fatesT (S : Sky) (most : Int) (s : St) : List (List Nat) := waysT (begT S.ears (lkT S s.look).st (lkT S (s.look + 1)).st) s.fl most
def behT (srt : List D → List D) (S : Sky) (most : Int) (s : St) (take : Bool) : List St := if s.look + 1 = S.looks.length then [] else (fatesT S most s).map (mkT srt S s take)
theorem ways_len {names failed : List Nat} {most : Int} (h : names.length ≤ 3) : (waysT names failed most).length ≤ 8 := by
  have h3 := List.length_filter_le (fun w : List Nat => decide ((w.length : Int) ≤ most)) (waysA names failed)
  rw [waysA_len] at h3
  have h5 : 2 ^ names.length ≤ 2 ^ 3 := Nat.pow_le_pow_right (by decide) h
  unfold waysT
  omega
theorem fates_len {S : Sky} {most : Int} {s : St} (ok : SkyOk S) : (fatesT S most s).length ≤ 8 := ways_len (by have := begT_le S.ears (lkT S s.look).st (lkT S (s.look + 1)).st; have := ok.earsN; omega)
theorem behT_len {S : Sky} {most : Int} {s : St} {take : Bool} (ok : SkyOk S) : (behT srt S most s take).length ≤ 8 := by
  unfold behT
  split
  · simp
  · rw [List.length_map]; exact fates_len ok
theorem behT_ok (hs : Srt srt) {S : Sky} {most : Int} {s b : St} {take : Bool} (h : StOk S most s) (hb : b ∈ behT srt S most s take) : StOk S most b ∧ b.look = s.look + 1 := by
  unfold behT at hb
  split at hb
  · cases hb
  · rename_i hne
    obtain ⟨f, hf, rfl⟩ := List.mem_map.mp hb
    obtain ⟨_, h2⟩ := waysT_mem.mp hf
    have hlk := h.look
    refine ⟨⟨by show s.look + 1 < _; omega, fun p hp => ?_, h2, ?_⟩, rfl⟩
    · cases take with
      | true =>
        have hp : some s.look = some p := hp
        cases hp; exact h.look
      | false => exact h.last p hp
    · have hw := h.wi
      cases take with
      | true =>
        show (sortI srt _).length ≤ s.look + 1
        rw [(hs.sortI _).2.length_eq, List.length_append]
        show s.wi.length + 1 ≤ _
        omega
      | false =>
        show s.wi.length ≤ s.look + 1
        omega
theorem firstT_ok {S : Sky} {most : Int} {s : St} (h : s ∈ firstT S most) : StOk S most s ∧ s.look = 0 := by
  unfold firstT at h
  split at h
  · cases h
  · obtain ⟨f, hf, rfl⟩ := List.mem_map.mp h
    obtain ⟨_, h2⟩ := waysT_mem.mp hf
    exact ⟨⟨by show 0 < _; omega, fun p hp => (by cases hp), h2, Nat.le_refl 0⟩, rfl⟩
theorem isState_st (s : St) : isState (eSt s) = true := by
  show (List.all _ isInt && List.all _ isInt) = true
  rw [Bool.and_eq_true]
  exact ⟨List.all_eq_true.mpr fun d hd => by obtain ⟨n, _, rfl⟩ := List.mem_map.mp hd; rfl, List.all_eq_true.mpr fun d hd => by obtain ⟨n, _, rfl⟩ := List.mem_map.mp hd; rfl⟩
theorem states_all (l : List St) : (l.map eSt).all isState = true := List.all_eq_true.mpr fun d hd => by
  obtain ⟨s, _, rfl⟩ := List.mem_map.mp hd
  exact isState_st s
theorem states_sortable (l : List St) : sortable (l.map eSt) = true := by unfold sortable; rw [states_all, Bool.or_true]; rfl
theorem fSorted_st (hs : Srt srt) (l : List St) : ∃ ys : List St, fSorted srt [.list (l.map eSt)] = some (.list (ys.map eSt)) ∧ ys.Perm l := by
  obtain ⟨ys, h1, h2⟩ := hs.map eSt l
  refine ⟨ys, ?_, h2⟩
  rw [← h1]
  exact if_pos (states_sortable l)
theorem r_states_behind (hs : Srt srt) {S : Sky} {most : Int} {s : St} (ok : SkyOk S) (h : StOk S most s) (hm : most ≤ 3) (take : Bool) : ∃ ys : List St, s_states_behind srt [eSky S, eSt s, mvS take, .int most] = some (.list (ys.map eSt)) ∧ ys.Perm (behT srt S most s take) := by
  have hL : LIM = 16777216 := rfl
  have hlk := h.look
  have hlen := fLen_map eLook S.looks
  have hm0 : 0 ≤ most := by have := h.fl; omega
  have hl := atD_map (f := eLook) (lk_at hlk)
  by_cases hc : s.look + 1 = S.looks.length
  · refine ⟨[], ?_, by unfold behT; rw [if_pos hc]⟩
    have he : cEq (.int ((s.look : Int) + 1)) (eN S.looks.length) = some true := congrArg some (decide_eq_true (by omega))
    refine ev_run rfl ?_; unfold b_states_behind; simp only [List.map_cons, List.map_nil, List.length_cons, List.length_nil, Nat.reduceAdd, Nat.reduceSub, List.replicate, List.cons_append, List.nil_append, Nat.zero_add, Nat.sub_self]
    exact ev_seq (ev_asg rfl rfl) (ev_seqR (ev_ifT (ev_tC (ev_B rfl rfl rfl) (ev_F (ev_cons (ev_B rfl rfl rfl) rfl) hlen) he) (ev_ret rfl)))
  · have hl2 : atD (S.looks.map eLook) ((s.look : Int) + 1) = some (eLook (lkT S (s.look + 1))) := atD_map (i := s.look + 1) (f := eLook) (lk_at (by omega))
    have he : cEq (.int ((s.look : Int) + 1)) (eN S.looks.length) = some false := congrArg some (decide_eq_false (by omega))
    obtain ⟨ws, h1, h2⟩ := hs.map eNs (fatesT S most s)
    have hb := begT_le S.ears (lkT S s.look).st (lkT S (s.look + 1)).st
    have hw := r_ways_of (srt := srt) (names := begT S.ears (lkT S s.look).st (lkT S (s.look + 1)).st) (failed := s.fl) (most := most) (by have := ok.earsN; omega) (by have := h.fl; omega) hm0
    have hw : s_ways_of srt [.list ((begT S.ears (lkT S s.look).st (lkT S (s.look + 1)).st).map eN), eNs s.fl, .int most] = some (.list (ws.map eNs)) := by rw [hw, ← h1]; rfl
    have hbb := r_begun_between (since := (lkT S s.look).st) (til := (lkT S (s.look + 1)).st) ok.earsN
    obtain ⟨zs, z1, z2⟩ := fSorted_st hs (ws.map (mkT srt S s take))
    refine ⟨zs, ?_, z2.trans (by unfold behT; rw [if_neg hc]; exact h2.map _)⟩
    refine ev_run rfl ?_; unfold b_states_behind; simp only [List.map_cons, List.map_nil, List.length_cons, List.length_nil, Nat.reduceAdd, Nat.reduceSub, List.replicate, List.cons_append, List.nil_append, Nat.zero_add, Nat.sub_self]
    have hif : sIf (tC cEq (eV 2) (eC (.str "take")))
        (sSeq (sAsg (.n 5) (eV 4)) (sAsg (.n 7) (eF fTuple (aCons (eF (fSortedT srt) (aCons (eB oCatT (eV 7) (eTup (aCons (eB oIx (eB oIx (eB oIx (eV 0) (eC (.int 0))) (eV 4)) (eC (.int 0))) aNil))) aNil)) aNil))))
        sNil [.im (eSky S), .im (eSt s), .im (mvS take), .im (.int most), .im (eN s.look), .im (.int (eLast s.last)), .im (.int s.amt), .im (.tuple (s.wi.map .int)), .im (eNs s.fl), .no, .no, .no, .no, .no]
        = some (.nx [.im (eSky S), .im (eSt s), .im (mvS take), .im (.int most), .im (eN s.look), .im (.int (eLast (lastT s take))), .im (.int s.amt), .im (.tuple ((wiT srt S s take).map .int)), .im (eNs s.fl), .no, .no, .no, .no, .no]) := by
      cases take with
      | false => exact ev_ifF (ev_tC rfl rfl rfl) rfl
      | true =>
        have hw1 := h.wi
        have hw2 := ok.looksN
        have hcat : oCatT (.tuple (s.wi.map .int)) (.tuple [.int (lkT S s.look).w]) = some (.tuple (s.wi.map .int ++ [.int (lkT S s.look).w])) := if_pos (by rw [List.length_map]; show s.wi.length + 1 ≤ _; omega)
        have hso : fSortedT srt [.tuple (s.wi.map .int ++ [.int (lkT S s.look).w])] = some (.list ((sortI srt (s.wi ++ [(lkT S s.look).w])).map .int)) := by
          have e : s.wi.map PyData.int ++ [.int (lkT S s.look).w] = (s.wi ++ [(lkT S s.look).w]).map .int := by rw [List.map_append]; rfl
          rw [e, ← (hs.sortI _).1]
          exact if_pos (List.all_eq_true.mpr fun d hd => by obtain ⟨n, _, rfl⟩ := List.mem_map.mp hd; rfl)
        exact ev_ifT (ev_tC rfl rfl rfl) (ev_seq (ev_asg rfl rfl) (ev_asg (ev_F (ev_cons (ev_F (ev_cons (ev_B rfl (ev_tup (ev_cons (ev_B (ev_B (ev_B rfl rfl rfl) rfl hl) rfl rfl) rfl)) hcat) rfl) hso) rfl) rfl) rfl))
    refine ev_seq (ev_asg rfl rfl) (ev_seq (ev_ifF (ev_tC (ev_B rfl rfl rfl) (ev_F (ev_cons (ev_B rfl rfl rfl) rfl) hlen) he) rfl) (ev_seq hif (ev_seq (ev_par (ev_B (ev_B (ev_B rfl rfl rfl) rfl hl) rfl rfl) (ev_B (ev_B (ev_B rfl rfl rfl) (ev_B rfl rfl rfl) hl2) rfl rfl)) (ev_seq (ev_new rfl) ?_))))
    have hokl : ∀ p, lastT s take = some p → p < S.looks.length := fun p hp => by
      cases take with
      | true =>
        have hp : some s.look = some p := hp
        cases hp; exact hlk
      | false => exact h.last p hp
    refine runs_go (runs_for (enc := eNs) (xs := ws) (fun done g => ∃ j12 j13 : Sl, g = [.im (eSky S), .im (eSt s), .im (mvS take), .im (.int most), .im (eN s.look), .im (.int (eLast (lastT s take))), .im (.int s.amt), .im (.tuple ((wiT srt S s take).map .int)), .im (eNs s.fl), .im (.int (lkT S s.look).st), .im (.int (lkT S (s.look + 1)).st), .mu (.list ((done.map (mkT srt S s take)).map eSt)), j12, j13])
      (ev_iL (ev_F (ev_cons (ev_F (ev_cons rfl (ev_cons rfl (ev_cons rfl rfl))) hbb) (ev_cons rfl (ev_cons rfl rfl))) hw)) ⟨_, _, rfl⟩ (fun done f rest hd g ⟨j12, j13, hg⟩ => ?_) fun g' h => h) fun g' ⟨j12, j13, hg⟩ => ?_
    · subst hg
      have hwe := r_without_ears (S := S) (fl := f) (by have := ok.earsN; omega)
      have ha := r_amount_behind (S := S.no f) (a := s.amt) (since := (lkT S s.look).st) (til := (lkT S (s.look + 1)).st) (last := lastT s take) (keep_ok ok.ears f) hokl
      have hdl : done.length ≤ 8 := by
        have q1 := h2.length_eq
        have q2 := fates_len (most := most) (s := s) ok
        rw [hd, List.length_append] at q1
        omega
      refine ⟨_, rfl, ?_⟩
      apply runs_of
      · exact ev_seq (ev_asg (ev_F (ev_cons (ev_F (ev_cons rfl (ev_cons rfl rfl)) hwe) (ev_cons rfl (ev_cons rfl (ev_cons rfl (ev_cons rfl rfl))))) ha) rfl) (ev_app1 rfl (ev_tup (ev_cons (ev_B rfl rfl rfl) (ev_cons rfl (ev_cons rfl (ev_cons rfl (ev_cons rfl rfl)))))) (by rw [List.length_map, List.length_map]; omega) rfl)
      · rw [List.map_append, List.map_append]
        exact ⟨_, _, rfl⟩
    · subst hg
      exact ev_ret (ev_F (ev_cons rfl rfl) z1)
end
end Sk
/-! SkPure6: states as keys; least and greatest; values by state -/
namespace Sk
open PySem
/-! ### states told apart -/
theorem all2_map {α : Type} [DecidableEq α] {f : α → D} {n : Nat} (h : ∀ a b : α, deq n (f a) (f b) = decide (a = b)) : ∀ xs ys : List α, all2 (deq n) (xs.map f) (ys.map f) = decide (xs = ys)
  | [], [] => rfl
  | [], _ :: _ => rfl
  | _ :: _, [] => rfl
  | x :: xs, y :: ys => by
    rw [List.map_cons, List.map_cons, all2, h, all2_map h xs ys, ← Bool.decide_and]
    exact decide_eq_decide.mpr (by simp)
theorem deq_int (n : Nat) (a b : Int) : deq n (.int a) (.int b) = decide (a = b) := by cases n <;> rfl
theorem deq_nat (n : Nat) (a b : Nat) : deq n (eN a) (eN b) = decide (a = b) := by
  rw [show deq n (eN a) (eN b) = decide ((a : Int) = (b : Int)) from deq_int n _ _]
  exact decide_eq_decide.mpr (by omega)
theorem eLast_inj {a b : Option Nat} : eLast a = eLast b ↔ a = b := by
  cases a <;> cases b <;> simp [eLast] <;> omega
theorem deq_st (a b : St) : deq 8 (eSt a) (eSt b) = decide (a = b) := by
  have e1 : deq 7 (.tuple (a.wi.map .int)) (.tuple (b.wi.map .int)) = decide (a.wi = b.wi) := all2_map (deq_int 6) a.wi b.wi
  have e2 : deq 7 (eNs a.fl) (eNs b.fl) = decide (a.fl = b.fl) := all2_map (f := eN) (deq_nat 6) a.fl b.fl
  show all2 (deq 7) [_, _, _, _, _] [_, _, _, _, _] = _
  simp only [all2, deq_int, e1, e2, Bool.and_true]
  obtain ⟨a1, a2, a3, a4, a5⟩ := a
  obtain ⟨b1, b2, b3, b4, b5⟩ := b
  simp only [St.mk.injEq, ← Bool.decide_and]
  refine decide_eq_decide.mpr ?_
  rw [eLast_inj]
  have : ((a1 : Int) = (b1 : Int)) ↔ a1 = b1 := by omega
  rw [this]
theorem isKey_st (s : St) : isKey (eSt s) = true := by
  show List.all [_, _, _, _, _] (keyish 7) = true
  simp only [List.all_cons, List.all_nil, Bool.and_true, Bool.and_eq_true]
  refine ⟨rfl, rfl, rfl, ?_, ?_⟩
  · show List.all _ (keyish 6) = true
    exact List.all_eq_true.mpr fun d hd => by obtain ⟨n, _, rfl⟩ := List.mem_map.mp hd; rfl
  · show List.all _ (keyish 6) = true
    exact List.all_eq_true.mpr fun d hd => by obtain ⟨n, _, rfl⟩ := List.mem_map.mp hd; rfl
theorem plain_st (s : St) : plain 8 (eSt s) = true := by
  show List.all [_, _, _, _, _] (plain 7) = true
  simp only [List.all_cons, List.all_nil, Bool.and_true, Bool.and_eq_true]
  refine ⟨rfl, rfl, rfl, ?_, ?_⟩
  · show List.all _ (plain 6) = true
    exact List.all_eq_true.mpr fun d hd => by obtain ⟨n, _, rfl⟩ := List.mem_map.mp hd; rfl
  · show List.all _ (plain 6) = true
    exact List.all_eq_true.mpr fun d hd => by obtain ⟨n, _, rfl⟩ := List.mem_map.mp hd; rfl
theorem cEq_st (a b : St) : cEq (eSt a) (eSt b) = some (decide (a = b)) := by
  unfold cEq
  rw [plain_st, plain_st, deq_st]
  rfl
theorem eSt_inj {a b : St} (h : eSt a = eSt b) : a = b := by
  have := deq_st a b
  rw [h] at this
  have h2 := deq_st b b
  rw [this] at h2
  simpa using h2
/-! ### dicts by state -/
abbrev Num := List (St × Int)
def eKv (p : St × Int) : D × D := (eSt p.1, .int p.2)
def eNum (m : Num) : D := .dict (m.map eKv)
def eRow (p : St × Int) : D := .tuple [eSt p.1, .int p.2]
def getN : Num → St → Option Int
  | [], _ => none
  | (a, v) :: r, s => if a = s then some v else getN r s
theorem kHas_num {V : Type} (f : V → D) (m : List (St × V)) (s : St) : kHas (m.map fun p => (eSt p.1, f p.2)) (eSt s) = decide (s ∈ m.map (·.1)) := by
  induction m with
  | nil => rfl
  | cons p m ih =>
    unfold kHas at ih ⊢
    rw [List.map_cons, List.any_cons, ih, deq_st, ← Bool.decide_or]
    refine decide_eq_decide.mpr ?_
    rw [List.map_cons, List.mem_cons, eq_comm]
theorem kGet_num (m : Num) (s : St) : kGet (m.map eKv) (eSt s) = (getN m s).map .int := by
  induction m with
  | nil => rfl
  | cons p m ih =>
    show (if deq 8 (eSt p.1) (eSt s) = true then some (PyData.int p.2) else kGet (m.map eKv) (eSt s)) = _
    rw [deq_st, ih]
    by_cases h : p.1 = s
    · rw [decide_eq_true h, if_pos rfl, getN, if_pos h]; rfl
    · rw [decide_eq_false h, if_neg Bool.false_ne_true, getN, if_neg h]
theorem kPut_new {V : Type} (f : V → D) (m : List (St × V)) (s : St) (v : V) (h : s ∉ m.map (·.1)) : kPut (m.map fun p => (eSt p.1, f p.2)) (eSt s) (f v) = (m ++ [(s, v)]).map fun p => (eSt p.1, f p.2) := by
  unfold kPut
  rw [kHas_num, decide_eq_false h, if_neg Bool.false_ne_true, List.map_append]
  rfl
theorem getN_some {m : Num} {s : St} {v : Int} (hn : (m.map (·.1)).Nodup) (h : (s, v) ∈ m) : getN m s = some v := by
  induction m with
  | nil => cases h
  | cons p m ih =>
    rw [List.map_cons, List.nodup_cons] at hn
    unfold getN
    rcases List.mem_cons.mp h with e | h
    · subst e; simp
    · have : p.1 ≠ s := fun e => hn.1 (e ▸ List.mem_map.mpr ⟨_, h, rfl⟩)
      rw [if_neg this]
      exact ih hn.2 h
theorem getN_none {m : Num} {s : St} (h : s ∉ m.map (·.1)) : getN m s = none := by
  induction m with
  | nil => rfl
  | cons p m ih =>
    rw [List.map_cons, List.mem_cons, not_or] at h
    unfold getN
    rw [if_neg (Ne.symm h.1)]
    exact ih h.2
theorem getN_mem {m : Num} {s : St} {v : Int} (h : getN m s = some v) : (s, v) ∈ m := by
  induction m with
  | nil => cases h
  | cons p m ih =>
    unfold getN at h
    by_cases e : p.1 = s
    · rw [if_pos e] at h
      cases h
      subst e
      exact List.mem_cons_self ..
    · rw [if_neg e] at h
      exact List.mem_cons_of_mem _ (ih h)
theorem getN_app {m m' : Num} {s : St} {v : Int} (h : getN m s = some v) : getN (m ++ m') s = some v := by
  induction m with
  | nil => cases h
  | cons p m ih =>
    rw [List.cons_append]
    unfold getN at h ⊢
    by_cases e : p.1 = s
    · rw [if_pos e] at h ⊢; exact h
    · rw [if_neg e] at h ⊢; exact ih h
theorem oGet_num {m : Num} {s : St} {v : Int} (h : getN m s = some v) : oGet (eNum m) (eSt s) = some (.int v) := by
  show (if isKey (eSt s) = true then kGet (m.map eKv) (eSt s) else none) = _
  rw [if_pos (isKey_st s), kGet_num, h]
  rfl
theorem cInD_num (m : Num) (s : St) : cInD (eSt s) (eNum m) = some (decide (s ∈ m.map (·.1))) := by
  show (if isKey (eSt s) = true then some (kHas (m.map eKv) (eSt s)) else none) = _
  rw [if_pos (isKey_st s)]
  exact congrArg some (kHas_num .int m s)
theorem kPuts_rows : ∀ (rows m : Num), ((m ++ rows).map (·.1)).Nodup → kPuts (m.map eKv) (rows.map eRow) = some ((m ++ rows).map eKv)
  | [], m, _ => by rw [List.append_nil]; rfl
  | p :: rows, m, h => by
    show (if (isKey (eSt p.1) && true) = true then kPuts (kPut (m.map eKv) (eSt p.1) (.int p.2)) (rows.map eRow) else none) = _
    rw [isKey_st, if_pos (show (true && true) = true from rfl)]
    have hn : p.1 ∉ m.map (·.1) := fun q => by
      rw [List.map_append, List.nodup_append] at h
      exact h.2.2 _ q _ (by rw [List.map_cons]; exact List.mem_cons_self ..) rfl
    have := kPut_new .int m p.1 p.2 hn
    have e : kPut (m.map eKv) (eSt p.1) (.int p.2) = (m ++ [p]).map eKv := this
    rw [e, kPuts_rows rows (m ++ [p]) (by rw [List.append_assoc]; exact h), List.append_assoc]
    rfl
theorem fDict_rows {rows : Num} (h : (rows.map (·.1)).Nodup) : fDict [.list (rows.map eRow)] = some (eNum rows) := by
  show (kPuts [] (rows.map eRow)).map PyData.dict = _
  rw [show ([] : Kvs) = ([] : Num).map eKv from rfl, kPuts_rows rows [] h]
  rfl
/-! ### the least -/
def minD : List Int → Int
  | [] => 0
  | x :: r => r.foldl min x
theorem min_spec : ∀ (r : List Int) (x : Int), r.foldl min x ∈ x :: r ∧ ∀ y ∈ x :: r, r.foldl min x ≤ y
  | [], x => ⟨by simp, by simp⟩
  | z :: r, x => by
    obtain ⟨h1, h2⟩ := min_spec r (min x z)
    rw [List.foldl_cons]
    refine ⟨?_, fun y hy => ?_⟩
    · rcases List.mem_cons.mp h1 with e | e
      · rw [e]
        rcases Int.le_total x z with q | q
        · rw [Int.min_eq_left q]; exact List.mem_cons_self
        · rw [Int.min_eq_right q]; exact List.mem_cons_of_mem _ List.mem_cons_self
      · exact List.mem_cons_of_mem _ (List.mem_cons_of_mem _ e)
    · have h3 := h2 (min x z) List.mem_cons_self
      rcases List.mem_cons.mp hy with rfl | hy
      · exact Int.le_trans h3 (Int.min_le_left _ _)
      · rcases List.mem_cons.mp hy with rfl | hy
        · exact Int.le_trans h3 (Int.min_le_right _ _)
        · exact h2 y (List.mem_cons_of_mem _ hy)
theorem minD_mem {l : List Int} (h : l ≠ []) : minD l ∈ l := by
  cases l with
  | nil => exact absurd rfl h
  | cons x r => exact (min_spec r x).1
theorem minD_le {l : List Int} {y : Int} (h : y ∈ l) : minD l ≤ y := by
  cases l with
  | nil => cases h
  | cons x r => exact (min_spec r x).2 y h
/-- the least is told by its members alone -/
theorem minD_set {l m : List Int} (h1 : ∀ x ∈ l, x ∈ m) (h2 : ∀ x ∈ m, x ∈ l) : minD l = minD m := by
  by_cases hl : l = []
  · subst hl
    have : m = [] := List.eq_nil_iff_forall_not_mem.mpr fun x hx => by cases h2 x hx
    rw [this]
  · have hm : m ≠ [] := fun e => by
      subst e
      exact hl (List.eq_nil_iff_forall_not_mem.mpr fun x hx => by cases h1 x hx)
    exact Int.le_antisymm (minD_le (h2 _ (minD_mem hm))) (minD_le (h1 _ (minD_mem hl)))
theorem minD_perm {l m : List Int} (h : l.Perm m) : minD l = minD m := minD_set (fun _ hx => h.mem_iff.mp hx) fun _ hx => h.mem_iff.mpr hx
/-- from below, member by member -/
theorem minD_mono {α : Type} {l : List α} {f g : α → Int} (h : ∀ x ∈ l, f x ≤ g x) : minD (l.map f) ≤ minD (l.map g) := by
  by_cases hl : l = []
  · subst hl; exact Int.le_refl _
  · have := minD_mem (l := l.map g) (by simpa using hl)
    obtain ⟨x, hx, e⟩ := List.mem_map.mp this
    rw [← e]
    exact Int.le_trans (minD_le (List.mem_map.mpr ⟨x, hx, rfl⟩)) (h x hx)
theorem fMinD_map (ns : List Int) : fMinD [.list (ns.map .int), .int 0] = some (.int (minD ns)) := by
  show (dInts (ns.map .int)).bind _ = _
  rw [dInts_map, Option.bind_some]
  cases ns <;> rfl
theorem fMin_map {ns : List Int} (h : ns ≠ []) : fMin [.list (ns.map .int)] = some (.int (minD ns)) := by
  show (dInts (ns.map .int)).bind _ = _
  rw [dInts_map, Option.bind_some]
  cases ns with
  | nil => exact absurd rfl h
  | cons _ _ => rfl
section
variable {srt : List D → List D}
/-- what a move is surely worth, by the states' numbers -/
def sbT (srt : List D → List D) (S : Sky) (most : Int) (f : St → Int) (s : St) (take : Bool) : Int := gainT S s take + minD ((behT srt S most s take).map f)
theorem r_sure_by (hs : Srt srt) {S : Sky} {most : Int} {s : St} (ok : SkyOk S) (h : StOk S most s) (hm : most ≤ 3) (take : Bool) {m : Num} {f : St → Int} (hf : ∀ b ∈ behT srt S most s take, getN m b = some (f b)) :
    s_sure_by srt [eSky S, eSt s, mvS take, eNum m, .int most] = some (.int (sbT srt S most f s take)) := by
  have hL : LIM = 16777216 := rfl
  obtain ⟨ys, h1, h2⟩ := r_states_behind hs ok h hm take
  have hg := r_gain_of ok h take
  have hlen : ys.length ≤ LIM := by
    rw [h2.length_eq]
    have := behT_len (srt := srt) (most := most) (s := s) (take := take) ok
    omega
  have hv := ev_lcA (enc := eSt) (tg := .n 6) (el := eB oGet (eV 3) (eV 6)) (src := iL (eF (s_states_behind srt) (aApp (aCons (eV 0) (aCons (eV 1) (aCons (eV 2) aNil))) (aCons (eV 4) aNil)))) (r := vI [.im (eSky S), .im (eSt s), .im (mvS take), .im (eNum m), .im (.int most), .no, .no]) (fun b => .int (f b)) (xs := ys)
    (ev_iL (ev_F (ev_app (ev_cons rfl (ev_cons rfl (ev_cons rfl rfl))) (ev_cons rfl rfl)) h1)) hlen fun b hb => ⟨_, rfl, ev_B rfl rfl (oGet_num (hf b (h2.mem_iff.mp hb))), rfl⟩
  have hmin : fMinD [.list (ys.map fun b => .int (f b)), .int 0] = some (.int (minD ((behT srt S most s take).map f))) := by
    rw [show (ys.map fun b => PyData.int (f b)) = (ys.map f).map .int by rw [List.map_map]; rfl, fMinD_map, minD_perm (h2.map f)]
  refine ev_run rfl ?_; unfold b_sure_by; simp only [List.map_cons, List.map_nil, List.length_cons, List.length_nil, Nat.reduceAdd, Nat.reduceSub, List.replicate, List.cons_append, List.nil_append, Nat.zero_add, Nat.sub_self]
  exact ev_seq (ev_asg hv rfl) (ev_ret (ev_B (ev_F (ev_cons rfl (ev_cons rfl (ev_cons rfl rfl))) hg) (ev_F (ev_cons rfl (ev_cons rfl rfl)) hmin) rfl))
/-- the value by turns -/
def vT (srt : List D → List D) (S : Sky) (most : Int) : Nat → St → Int
  | 0, _ => 0
  | n + 1, s => if mayT S s then max (sbT srt S most (vT srt S most n) s false) (sbT srt S most (vT srt S most n) s true) else sbT srt S most (vT srt S most n) s false
def vS (srt : List D → List D) (S : Sky) (most : Int) (s : St) : Int := vT srt S most (S.looks.length - s.look) s
def bestT (srt : List D → List D) (S : Sky) (most : Int) (f : St → Int) (s : St) : Int := if mayT S s then max (sbT srt S most f s false) (sbT srt S most f s true) else sbT srt S most f s false
theorem vS_eq (hs : Srt srt) {S : Sky} {most : Int} {s : St} (h : StOk S most s) : vS srt S most s = bestT srt S most (vS srt S most) s := by
  have hl := h.look
  have e : S.looks.length - s.look = (S.looks.length - (s.look + 1)) + 1 := by omega
  have hsb : ∀ take, sbT srt S most (vT srt S most (S.looks.length - (s.look + 1))) s take = sbT srt S most (vS srt S most) s take := fun take => by
    unfold sbT
    congr 2
    refine List.map_congr_left fun b hb => ?_
    unfold vS
    rw [(behT_ok hs h hb).2]
  unfold vS at hsb ⊢
  rw [e, vT]
  unfold bestT
  rw [hsb false, hsb true]
end
end Sk
/-! SkPure7: the states that are reached -/
namespace Sk
open PySem
theorem wh_run {t : FT} {body : SE} (P : Nat → Gam → Prop) (Q : Gam → Prop) (hs : ∀ m g, P m g → (t (vA g) = some false ∧ Q g) ∨ (t (vA g) = some true ∧ ∃ g', body g = some (.nx g') ∧ ∃ m', m' < m ∧ P m' g')) :
    ∀ (n m : Nat) (g : Gam), P m g → m < n → ∃ g', whGo t body n g = some (.nx g') ∧ Q g'
  | 0, _, _, _, h => absurd h (Nat.not_lt_zero _)
  | n + 1, m, g, hp, h => by
    rw [whGo]
    rcases hs m g hp with ⟨h1, h2⟩ | ⟨h1, g', h2, m', h3, h4⟩
    · exact ⟨g, by rw [h1, Option.bind_some, if_neg Bool.false_ne_true], h2⟩
    · obtain ⟨g'', q1, q2⟩ := wh_run P Q hs n m' g' h4 (by omega)
      exact ⟨g'', by rw [h1, Option.bind_some, if_pos rfl, h2, Option.bind_some]; exact q1, q2⟩
theorem nodup_sub {α : Type} [DecidableEq α] : ∀ {l u : List α}, l.Nodup → (∀ x ∈ l, x ∈ u) → l.length ≤ u.length
  | [], _, _, _ => Nat.zero_le _
  | x :: l, u, hn, h => by
    rw [List.nodup_cons] at hn
    have hx := h x List.mem_cons_self
    have : l.length ≤ (u.erase x).length := nodup_sub hn.2 fun y hy => (List.mem_erase_of_ne (by rintro rfl; exact hn.1 hy)).mpr (h y (List.mem_cons_of_mem _ hy))
    rw [List.length_erase_of_mem hx] at this
    have hp : 0 < u.length := List.length_pos_of_mem hx
    rw [List.length_cons]
    omega
def eFd (F : List St) : D := .dict (F.map fun s => (eSt s, .bool true))
theorem eFd_as (F : List St) : (F.map fun s => (eSt s, PyData.bool true)) = (F.map fun s => (s, true)).map fun p => (eSt p.1, PyData.bool p.2) := by rw [List.map_map]; rfl
theorem cNiDd_fd (F : List St) (s : St) : cNiDd (eSt s) (eFd F) = some (!decide (s ∈ F)) := by
  show (if isKey (eSt s) = true then some (kHas (F.map fun s => (eSt s, .bool true)) (eSt s)) else none).map _ = _
  rw [if_pos (isKey_st s), eFd_as, kHas_num, List.map_map]
  have : (F.map ((fun p : St × Bool => p.1) ∘ fun s => (s, true))) = F := (List.map_congr_left fun _ _ => rfl).trans (List.map_id F)
  rw [this]
  rfl
theorem kPut_fd {F : List St} {s : St} (h : s ∉ F) : kPut (F.map fun s => (eSt s, PyData.bool true)) (eSt s) (.bool true) = (F ++ [s]).map fun s => (eSt s, PyData.bool true) := by
  rw [eFd_as, kPut_new PyData.bool _ s true (by rw [List.map_map]; intro q; obtain ⟨x, hx, e⟩ := List.mem_map.mp q; exact h (e ▸ hx)), List.map_append, List.map_append]
  rw [← eFd_as]
  rfl
theorem kPut_fd_old {F : List St} {s : St} (h : s ∈ F) : kPut (F.map fun s => (eSt s, PyData.bool true)) (eSt s) (.bool true) = F.map fun s => (eSt s, PyData.bool true) := by
  unfold kPut
  have hh : kHas (F.map fun s => (eSt s, PyData.bool true)) (eSt s) = true := by
    rw [eFd_as, kHas_num, List.map_map]
    exact decide_eq_true (List.mem_map.mpr ⟨s, h, rfl⟩)
  rw [hh, if_pos rfl, List.map_map]
  refine List.map_congr_left fun x _ => ?_
  show (if _ then _ else _) = _
  split <;> rfl
def addS (F : List St) (s : St) : List St := if s ∈ F then F else F ++ [s]
theorem addS_spec {F : List St} (s : St) (hn : F.Nodup) : (addS F s).Nodup ∧ (∀ x, x ∈ addS F s ↔ x ∈ F ∨ x = s) := by
  unfold addS
  split
  · rename_i h
    exact ⟨hn, fun x => ⟨.inl, fun q => q.elim id fun e => e ▸ h⟩⟩
  · rename_i h
    refine ⟨List.nodup_append.mpr ⟨hn, by simp, fun a ha b hb e => h (by rw [List.mem_singleton] at hb; rw [← hb, ← e]; exact ha)⟩, fun x => ?_⟩
    rw [List.mem_append, List.mem_singleton]
theorem dc_fd {r : Rho} {kx vx : FE} {t : Nat} (hk : ∀ s : St, kx (r.set t (some (eSt s))) = some (eSt s)) (hv : ∀ s : St, vx (r.set t (some (eSt s))) = some (.bool true)) : ∀ (xs F : List St), F.Nodup → ∃ F' : List St, dcGo (.n t) kx vx r (F.map fun s => (eSt s, PyData.bool true)) (xs.map eSt) = some (F'.map fun s => (eSt s, PyData.bool true)) ∧ F'.Nodup ∧ ∀ x, x ∈ F' ↔ x ∈ F ∨ x ∈ xs
  | [], F, hn => ⟨F, rfl, hn, fun x => by simp⟩
  | s :: xs, F, hn => by
    obtain ⟨h1, h2⟩ := addS_spec s hn
    obtain ⟨F', q1, q2, q3⟩ := dc_fd hk hv xs (addS F s) h1
    refine ⟨F', ?_, q2, fun x => by rw [q3, h2, List.mem_cons, or_assoc]⟩
    rw [List.map_cons, dcGo]
    show (some (r.set t (some (eSt s)))).bind _ = _
    rw [Option.bind_some, hk, Option.bind_some, hv, Option.bind_some, isKey_st, if_pos (show (true && flat (.bool true)) = true from rfl)]
    have : kPut (F.map fun s => (eSt s, PyData.bool true)) (eSt s) (.bool true) = (addS F s).map fun s => (eSt s, PyData.bool true) := by
      unfold addS
      by_cases h : s ∈ F
      · rw [if_pos h, kPut_fd_old h]
      · rw [if_neg h, kPut_fd h]
    rw [this]
    exact q1
section
variable {srt : List D → List D}
/-- the states that can be met, look by look -/
def lvT (srt : List D → List D) (S : Sky) (most : Int) : Nat → List St
  | 0 => firstT S most
  | n + 1 => (lvT srt S most n).flatMap fun s => behT srt S most s false ++ behT srt S most s true
def uniT (srt : List D → List D) (S : Sky) (most : Int) : List St := lvT srt S most 0 ++ (lvT srt S most 1 ++ (lvT srt S most 2 ++ (lvT srt S most 3 ++ lvT srt S most 4)))
theorem flat_len {α β : Type} {f : α → List β} {c : Nat} (h : ∀ x, (f x).length ≤ c) : ∀ l : List α, (l.flatMap f).length ≤ l.length * c
  | [] => by simp
  | x :: l => by
    rw [List.flatMap_cons, List.length_append, List.length_cons, Nat.succ_mul]
    have := flat_len h l
    have := h x
    omega
theorem lv_len {S : Sky} {most : Int} (ok : SkyOk S) : ∀ n, (lvT srt S most n).length ≤ 8 * 16 ^ n
  | 0 => by
    show (firstT S most).length ≤ _
    unfold firstT
    split
    · simp
    · rw [List.length_map]
      have := begT_le S.ears (-1) (lkT S 0).st
      exact ways_len (by have := ok.earsN; omega)
  | n + 1 => by
    have h1 := flat_len (f := fun s => behT srt S most s false ++ behT srt S most s true) (c := 16) (fun s => by
      rw [List.length_append]
      have a := behT_len (srt := srt) (most := most) (s := s) (take := false) ok
      have b := behT_len (srt := srt) (most := most) (s := s) (take := true) ok
      omega) (lvT srt S most n)
    have h2 := lv_len (most := most) ok n
    show (List.flatMap _ (lvT srt S most n)).length ≤ _
    rw [Nat.pow_succ]
    calc _ ≤ (lvT srt S most n).length * 16 := h1
      _ ≤ (8 * 16 ^ n) * 16 := Nat.mul_le_mul_right _ h2
      _ = _ := Nat.mul_assoc ..
theorem uni_len {S : Sky} {most : Int} (ok : SkyOk S) : (uniT srt S most).length ≤ 559240 := by
  have h0 := lv_len (srt := srt) (most := most) ok 0
  have h1 := lv_len (srt := srt) (most := most) ok 1
  have h2 := lv_len (srt := srt) (most := most) ok 2
  have h3 := lv_len (srt := srt) (most := most) ok 3
  have h4 := lv_len (srt := srt) (most := most) ok 4
  unfold uniT
  rw [List.length_append, List.length_append, List.length_append, List.length_append]
  omega
theorem uni_of {S : Sky} {most : Int} {s : St} {n : Nat} (hn : n < 5) (h : s ∈ lvT srt S most n) : s ∈ uniT srt S most := by
  unfold uniT
  simp only [List.mem_append]
  have : n = 0 ∨ n = 1 ∨ n = 2 ∨ n = 3 ∨ n = 4 := by omega
  rcases this with rfl | rfl | rfl | rfl | rfl
  · exact .inl h
  · exact .inr (.inl h)
  · exact .inr (.inr (.inl h))
  · exact .inr (.inr (.inr (.inl h)))
  · exact .inr (.inr (.inr (.inr h)))
/-- a set of states, well kept -/
structure FOk (srt : List D → List D) (S : Sky) (most : Int) (F : List St) : Prop where
  nd : F.Nodup
  ok : ∀ s ∈ F, StOk S most s
  lv : ∀ s ∈ F, s ∈ lvT srt S most s.look
theorem FOk.len {S : Sky} {most : Int} {F : List St} (ok : SkyOk S) (h : FOk srt S most F) : F.length ≤ (uniT srt S most).length := nodup_sub h.nd fun s hs => uni_of (by have := (h.ok s hs).look; have := ok.looksN; omega) (h.lv s hs)
theorem FOk.add {S : Sky} {most : Int} {F : List St} {s b : St} {take : Bool} (hs : Srt srt) (h : FOk srt S most F) (hF : s ∈ F) (hb : b ∈ behT srt S most s take) (hn : b ∉ F) : FOk srt S most (F ++ [b]) := by
  obtain ⟨h1, h2⟩ := behT_ok hs (h.ok s hF) hb
  refine ⟨List.nodup_append.mpr ⟨h.nd, by simp, fun a ha c hc e => hn (by rw [List.mem_singleton] at hc; rw [← hc, ← e]; exact ha)⟩, fun x hx => ?_, fun x hx => ?_⟩
  · rcases List.mem_append.mp hx with hx | hx
    · exact h.ok x hx
    · rw [List.mem_singleton.mp hx]; exact h1
  · rcases List.mem_append.mp hx with hx | hx
    · exact h.lv x hx
    · rw [List.mem_singleton.mp hx, h2]
      refine List.mem_flatMap.mpr ⟨s, h.lv s hF, ?_⟩
      cases take with
      | true => exact List.mem_append_right _ hb
      | false => exact List.mem_append_left _ hb
/-- all behind s stand in F -/
def Clo (srt : List D → List D) (S : Sky) (most : Int) (F : List St) (s : St) : Prop := ∀ take ∈ movesT S s, ∀ b ∈ behT srt S most s take, b ∈ F
/-- a turn of the loop -/
theorem reach_turn (hs : Srt srt) {S : Sky} {most : Int} (ok : SkyOk S) (hm : most ≤ 3) {W1 F0 : List St} {s : St} {j3 j5 j6 : Sl} (hF : FOk srt S most F0) (hsF : s ∈ F0) (hWF : W1.length ≤ F0.length + 8) :
    ∃ N j5' j6', sSeq (sPop 3 2) (sFor (iL (eF s_moves_of (aCons (eV 0) (aCons (eV 3) aNil)))) (.n 5)
      (sFor (iL (eF (s_states_behind srt) (aApp (aCons (eV 0) (aCons (eV 3) (aCons (eV 5) aNil))) (aCons (eV 1) aNil)))) (.n 6)
      (sIf (tC cNiDd (eV 6) (eV 4)) (sSeq (sStD 4 6 (eC (.bool true))) (sApp 2 (eV 6))) sNil)))
      [.im (eSky S), .im (.int most), .mu (.list ((W1 ++ [s]).map eSt)), j3, .mu (eFd F0), j5, j6] =
      some (.nx [.im (eSky S), .im (.int most), .mu (.list ((W1 ++ N).map eSt)), .im (eSt s), .mu (eFd (F0 ++ N)), j5', j6']) ∧ FOk srt S most (F0 ++ N) ∧ Clo srt S most (F0 ++ N) s := by
  have hL : LIM = 16777216 := rfl
  have hso := hF.ok s hsF
  have hpop : sPop 3 2 [.im (eSky S), .im (.int most), .mu (.list ((W1 ++ [s]).map eSt)), j3, .mu (eFd F0), j5, j6] = some (.nx [.im (eSky S), .im (.int most), .mu (.list (W1.map eSt)), .im (eSt s), .mu (eFd F0), j5, j6]) := by
    have e1 : ((W1 ++ [s]).map eSt)[((W1 ++ [s]).map eSt).length - 1]? = some (eSt s) := by
      rw [List.length_map, List.length_append, List.getElem?_map]
      show ((W1 ++ [s])[W1.length + 1 - 1]?).map eSt = _
      rw [Nat.add_sub_cancel, List.getElem?_append_right (Nat.le_refl _), Nat.sub_self]
      rfl
    have e2 : ((W1 ++ [s]).map eSt).dropLast = W1.map eSt := by rw [List.map_append]; exact List.dropLast_concat
    unfold sPop
    show ((((W1 ++ [s]).map eSt)[((W1 ++ [s]).map eSt).length - 1]?).bind _) = _
    rw [e1, Option.bind_some, e2]
    rfl
  have hmv := r_moves_of ok hso
  have main : Runs (sFor (iL (eF s_moves_of (aCons (eV 0) (aCons (eV 3) aNil)))) (.n 5)
      (sFor (iL (eF (s_states_behind srt) (aApp (aCons (eV 0) (aCons (eV 3) (aCons (eV 5) aNil))) (aCons (eV 1) aNil)))) (.n 6)
      (sIf (tC cNiDd (eV 6) (eV 4)) (sSeq (sStD 4 6 (eC (.bool true))) (sApp 2 (eV 6))) sNil)))
      [.im (eSky S), .im (.int most), .mu (.list (W1.map eSt)), .im (eSt s), .mu (eFd F0), j5, j6]
      (fun g => ∃ N j5' j6', g = [.im (eSky S), .im (.int most), .mu (.list ((W1 ++ N).map eSt)), .im (eSt s), .mu (eFd (F0 ++ N)), j5', j6'] ∧ FOk srt S most (F0 ++ N) ∧ Clo srt S most (F0 ++ N) s) := by
    refine runs_for (enc := mvS) (xs := movesT S s) (fun done g => ∃ N j5' j6', g = [.im (eSky S), .im (.int most), .mu (.list ((W1 ++ N).map eSt)), .im (eSt s), .mu (eFd (F0 ++ N)), j5', j6'] ∧ FOk srt S most (F0 ++ N) ∧ ∀ take ∈ done, ∀ b ∈ behT srt S most s take, b ∈ F0 ++ N)
      (ev_iL (ev_F (ev_cons rfl (ev_cons rfl rfl)) hmv)) ⟨[], j5, j6, by rw [List.append_nil, List.append_nil], by rw [List.append_nil]; exact hF, fun _ h => by cases h⟩ (fun done take rest hd g ⟨N, k5, k6, hg, hN, hdn⟩ => ?_) fun g h => h
    subst hg
    refine ⟨_, rfl, ?_⟩
    obtain ⟨ys, y1, y2⟩ := r_states_behind hs ok hso hm take
    refine runs_for (enc := eSt) (xs := ys) (fun dn g => ∃ N j6', g = [.im (eSky S), .im (.int most), .mu (.list ((W1 ++ N).map eSt)), .im (eSt s), .mu (eFd (F0 ++ N)), .im (mvS take), j6'] ∧ FOk srt S most (F0 ++ N) ∧ (∀ take ∈ done, ∀ b ∈ behT srt S most s take, b ∈ F0 ++ N) ∧ ∀ b ∈ dn, b ∈ F0 ++ N)
      (ev_iL (ev_F (ev_app (ev_cons rfl (ev_cons rfl (ev_cons rfl rfl))) (ev_cons rfl rfl)) y1)) ⟨N, k6, rfl, hN, hdn, fun _ h => by cases h⟩ (fun dn b rest2 hd2 g ⟨N2, l6, hg, hN2, hdn2, hb2⟩ => ?_) fun g ⟨N2, l6, hg, hN2, hdn2, hb2⟩ => ⟨N2, _, _, hg, hN2, fun tk htk b hb => ?_⟩
    · subst hg
      refine ⟨_, rfl, ?_⟩
      have hbB : b ∈ behT srt S most s take := y2.mem_iff.mp (by rw [hd2]; simp)
      refine runs_if (k := !decide (b ∈ F0 ++ N2)) (ev_tC rfl rfl (cNiDd_fd _ b)) (fun hk => ?_) fun hk => ?_
      · have hn : b ∉ F0 ++ N2 := by simpa using hk
        have hok2 := hN2.add hs (List.mem_append_left _ hsF) hbB hn
        have hlen := hN2.len ok
        have hul := uni_len (srt := srt) (most := most) ok
        have hst : sStD 4 6 (eC (.bool true)) [.im (eSky S), .im (.int most), .mu (.list ((W1 ++ N2).map eSt)), .im (eSt s), .mu (eFd (F0 ++ N2)), .im (mvS take), .im (eSt b)] = some (.nx [.im (eSky S), .im (.int most), .mu (.list ((W1 ++ N2).map eSt)), .im (eSt s), .mu (eFd (F0 ++ N2 ++ [b])), .im (mvS take), .im (eSt b)]) := by
          unfold sStD
          show (if _ then _ else _) = _
          rw [if_pos (by rw [isKey_st, List.length_map, decide_eq_true (by omega)]; rfl), kPut_fd hn]
          rfl
        have hlW : ((W1 ++ N2).map eSt).length < LIM := by
          rw [List.length_map, List.length_append]
          rw [List.length_append] at hlen
          omega
        apply runs_of
        · exact ev_seq hst (ev_app1 rfl rfl hlW rfl)
        · refine ⟨N2 ++ [b], .im (eSt b), ?_, by rw [← List.append_assoc]; exact hok2, fun tk htk x hx => ?_, fun x hx => ?_⟩
          · rw [← List.append_assoc, ← List.append_assoc, List.map_append (l₁ := W1 ++ N2)]
            rfl
          · rw [← List.append_assoc]
            exact List.mem_append_left _ (hdn2 tk htk x hx)
          · rw [← List.append_assoc]
            rcases List.mem_append.mp hx with hx | hx
            · exact List.mem_append_left _ (hb2 x hx)
            · exact List.mem_append_right _ hx
      · have hin : b ∈ F0 ++ N2 := by
          cases hc : decide (b ∈ F0 ++ N2) with
          | true => exact of_decide_eq_true hc
          | false => rw [hc] at hk; cases hk
        exact ⟨_, rfl, N2, _, rfl, hN2, hdn2, fun x hx => by
          rcases List.mem_append.mp hx with hx | hx
          · exact hb2 x hx
          · rw [List.mem_singleton.mp hx]; exact hin⟩
    · rcases List.mem_append.mp htk with h | h
      · exact hdn2 tk h b hb
      · rw [List.mem_singleton.mp h] at hb
        exact hb2 b (y2.mem_iff.mpr hb)
  obtain ⟨g, h1, N, k5, k6, rfl, h2, h3⟩ := main
  exact ⟨N, k5, k6, ev_seq hpop h1, h2, h3⟩
/-- the states of a sky, as reached -/
structure ROk (srt : List D → List D) (S : Sky) (most : Int) (R : List St) : Prop where
  nd : R.Nodup
  ok : ∀ s ∈ R, StOk S most s
  first : ∀ s ∈ firstT S most, s ∈ R
  look0 : ∀ s ∈ R, s.look = 0 → s ∈ firstT S most
  clo : ∀ s ∈ R, Clo srt S most R s
  up : R.Pairwise fun a b => a.look ≤ b.look
  len : R.length ≤ 559240
theorem r_reached (hs : Srt srt) {S : Sky} (ok : SkyOk S) {most : Int} (h0 : 0 ≤ most) (hm : most ≤ 3) : ∃ R : List St, s_reached srt [eSky S, .int most] = some (.list (R.map eSt)) ∧ ROk srt S most R := by
  have hL : LIM = 16777216 := rfl
  obtain ⟨ys, y1, y2⟩ := r_first_states hs ok h0
  have hyl : ys.length ≤ 8 := by
    rw [y2.length_eq]
    exact lv_len (srt := srt) (most := most) ok 0
  obtain ⟨F, f1, f2, f3⟩ := dc_fd (r := vA [.im (eSky S), .im (.int most), .mu (.list (ys.map eSt)), .no, .no, .no, .no]) (t := 3) (kx := eV 3) (vx := eC (.bool true)) (fun _ => rfl) (fun _ => rfl) ys [] List.nodup_nil
  have f3' : ∀ x, x ∈ F ↔ x ∈ ys := fun x => by rw [f3]; simp
  have hFok : FOk srt S most F := ⟨f2, fun s h => (firstT_ok (y2.mem_iff.mp ((f3' s).mp h))).1, fun s h => by
    have q := y2.mem_iff.mp ((f3' s).mp h)
    rw [(firstT_ok q).2]
    exact q⟩
  have hdc : eDc (iL (eV 2)) (.n 3) (eV 3) (eC (.bool true)) (vA [.im (eSky S), .im (.int most), .mu (.list (ys.map eSt)), .no, .no, .no, .no]) = some (eFd F) := by
    unfold eDc
    rw [ev_iL rfl, Option.bind_some, if_pos (by rw [List.length_map]; omega)]
    show (dcGo _ _ _ _ (([] : List St).map fun s => (eSt s, PyData.bool true)) _).map _ = _
    rw [f1]
    rfl
  obtain ⟨g', w1, F', k3, k5, k6, w2, hF', w3, w4⟩ := wh_run (t := tTr (eV 2)) (body := sSeq (sPop 3 2) (sFor (iL (eF s_moves_of (aCons (eV 0) (aCons (eV 3) aNil)))) (.n 5)
      (sFor (iL (eF (s_states_behind srt) (aApp (aCons (eV 0) (aCons (eV 3) (aCons (eV 5) aNil))) (aCons (eV 1) aNil)))) (.n 6)
      (sIf (tC cNiDd (eV 6) (eV 4)) (sSeq (sStD 4 6 (eC (.bool true))) (sApp 2 (eV 6))) sNil))))
    (fun m g => ∃ W F' j3 j5 j6, g = [.im (eSky S), .im (.int most), .mu (.list (W.map eSt)), j3, .mu (eFd F'), j5, j6] ∧ FOk srt S most F' ∧ (∀ s ∈ W, s ∈ F') ∧ W.length ≤ F'.length + 8 ∧ (∀ s ∈ F, s ∈ F') ∧ (∀ s ∈ F', s ∈ F ∨ s.look ≠ 0) ∧ (∀ s ∈ F', s ∈ W ∨ Clo srt S most F' s) ∧ m = 2 * ((uniT srt S most).length - F'.length) + W.length)
    (fun g => ∃ F' j3 j5 j6, g = [.im (eSky S), .im (.int most), .mu (.list []), j3, .mu (eFd F'), j5, j6] ∧ FOk srt S most F' ∧ (∀ s ∈ F', s ∈ F ∨ s.look ≠ 0) ∧ (∀ s ∈ F, s ∈ F') ∧ ∀ s ∈ F', Clo srt S most F' s)
    (fun m g ⟨W, F', j3, j5, j6, hg, p1, p2, p3, p4, p5, p6, p7⟩ => by
      subst hg
      rcases List.eq_nil_or_concat W with e | ⟨W1, s, e⟩
      · subst e
        refine .inl ⟨ev_Tr rfl rfl, F', j3, j5, j6, rfl, p1, p5, p4, fun s h => ?_⟩
        rcases p6 s h with q | q
        · cases q
        · exact q
      · rw [List.concat_eq_append] at e
        subst e
        have hsF : s ∈ F' := p2 s (List.mem_append_right _ (List.mem_singleton.mpr rfl))
        rw [List.length_append] at p3 p7
        have p3 : W1.length + 1 ≤ F'.length + 8 := p3
        have p7 : m = 2 * ((uniT srt S most).length - F'.length) + (W1.length + 1) := p7
        obtain ⟨N, k5, k6, q1, q2, q3⟩ := reach_turn (j3 := j3) (j5 := j5) (j6 := j6) hs ok hm p1 hsF (W1 := W1) (by omega)
        refine .inr ⟨ev_Tr rfl ?_, _, q1, 2 * ((uniT srt S most).length - (F' ++ N).length) + (W1 ++ N).length, ?_, W1 ++ N, F' ++ N, _, k5, k6, rfl, q2, fun x hx => ?_, ?_, fun x hx => List.mem_append_left _ (p4 x hx), fun x hx => ?_, fun x hx => ?_, rfl⟩
        · rw [List.map_append]
          show some (!(W1.map eSt ++ [eSt s]).isEmpty) = some true
          cases W1.map eSt <;> rfl
        · have hl := q2.len ok
          rw [List.length_append] at hl
          rw [List.length_append, List.length_append]
          omega
        · rcases List.mem_append.mp hx with hx | hx
          · exact List.mem_append_left _ (p2 x (List.mem_append_left _ hx))
          · exact List.mem_append_right _ hx
        · rw [List.length_append, List.length_append]
          omega
        · rcases List.mem_append.mp hx with hx | hx
          · exact p5 x hx
          · refine .inr fun e => ?_
            have q := q2.lv x (List.mem_append_right _ hx)
            rw [e] at q
            have hF : x ∈ F := (f3' x).mpr (y2.mem_iff.mpr q)
            have := List.nodup_append.mp q2.nd
            exact this.2.2 x (p4 x hF) x hx rfl
        · have mono : ∀ y, Clo srt S most F' y → Clo srt S most (F' ++ N) y := fun y hy take ht b hb => List.mem_append_left _ (hy take ht b hb)
          rcases List.mem_append.mp hx with hx | hx
          · rcases p6 x hx with q | q
            · rcases List.mem_append.mp q with q | q
              · exact .inl (List.mem_append_left _ q)
              · rw [List.mem_singleton.mp q]
                exact .inr q3
            · exact .inr (mono x q)
          · exact .inl (List.mem_append_right _ hx))
    FU _ _ ⟨ys, F, .no, .no, .no, rfl, hFok, fun s h => (f3' s).mpr h, by omega, fun _ h => h, fun _ h => .inl h, fun s h => .inl ((f3' s).mp h), rfl⟩ (by
      have := uni_len (srt := srt) (most := most) ok
      have hFU : FU = 4000000 := rfl
      rw [hFU]
      omega)
  subst w2
  obtain ⟨R, r1, r2⟩ := hs.map eSt F'
  have hR : fSortedD srt [eFd F'] = some (.list (R.map eSt)) := by
    have e : (F'.map fun s => (eSt s, PyData.bool true)).map (·.1) = F'.map eSt := by rw [List.map_map]; rfl
    show (if ((F'.map fun s => (eSt s, PyData.bool true)).map (·.1)).all isState = true then some (PyData.list (srt ((F'.map fun s => (eSt s, PyData.bool true)).map (·.1)))) else none) = _
    rw [e, if_pos (states_all F'), r1]
  refine ⟨R, ?_, r2.nodup_iff.mpr hF'.nd, fun s h => hF'.ok s (r2.mem_iff.mp h), fun s h => r2.mem_iff.mpr (w4.1 s ((f3' s).mpr (y2.mem_iff.mpr h))), fun s h e => ?_, fun s h take ht b hb => r2.mem_iff.mpr (w4.2 s (r2.mem_iff.mp h) take ht b hb), hs.st F' R r1, ?_⟩
  · refine ev_run rfl ?_; unfold b_reached; simp only [List.map_cons, List.map_nil, List.length_cons, List.length_nil, Nat.reduceAdd, Nat.reduceSub, List.replicate, List.cons_append, List.nil_append, Nat.zero_add, Nat.sub_self]
    exact ev_seq (ev_new (ev_F (ev_app (ev_cons rfl rfl) (ev_cons rfl rfl)) y1)) (ev_seq (ev_newD hdc) (ev_seq w1 (ev_ret (ev_F (ev_cons rfl rfl) hR))))
  · rcases w3 s (r2.mem_iff.mp h) with q | q
    · exact y2.mem_iff.mp ((f3' s).mp q)
    · exact absurd e q
  · rw [r2.length_eq]
    exact Nat.le_trans (hF'.len ok) (uni_len ok)
end
end Sk
/-! SkPure8: the numbers, the table, the rule -/
namespace Sk
open PySem
section
variable {srt : List D → List D}
theorem keys_of {R : List St} {f : St → Int} : (R.map fun s => (s, f s)).map (·.1) = R := by
  rw [List.map_map]
  exact (List.map_congr_left fun _ _ => rfl).trans (List.map_id R)
theorem vals_at {R : List St} {f : St → Int} (hn : R.Nodup) {s : St} (h : s ∈ R) : getN (R.map fun s => (s, f s)) s = some (f s) :=
  getN_some (by rw [keys_of]; exact hn) (List.mem_map.mpr ⟨s, h, rfl⟩)
theorem fMax_moves {S : Sky} {s : St} (f : Bool → Int) : fMax [.list ((movesT S s).map fun take => .int (f take))] = some (.int (if mayT S s then max (f false) (f true) else f false)) := by
  unfold movesT
  cases mayT S s <;> rfl
theorem r_sure_numbers (hs : Srt srt) {S : Sky} (ok : SkyOk S) {most : Int} (h0 : 0 ≤ most) (hm : most ≤ 3) {R : List St} (hR : ROk srt S most R) (hr : s_reached srt [eSky S, .int most] = some (.list (R.map eSt))) :
    s_sure_numbers srt [eSky S, .int most] = some (eNum (R.reverse.map fun s => (s, vS srt S most s))) := by
  have hL : LIM = 16777216 := rfl
  refine ev_run rfl ?_; unfold b_sure_numbers; simp only [List.map_cons, List.map_nil, List.length_cons, List.length_nil, Nat.reduceAdd, Nat.reduceSub, List.replicate, List.cons_append, List.nil_append, Nat.zero_add, Nat.sub_self]
  refine ev_seq (ev_new rfl) (runs_go (runs_for (enc := eSt) (xs := R.reverse) (fun done g => ∃ j3 : Sl, g = [.im (eSky S), .im (.int most), .mu (eNum (done.map fun s => (s, vS srt S most s))), j3, .no]) ?_ ⟨.no, rfl⟩ (fun done s rest hd g ⟨j3, hg⟩ => ?_) fun g' h => h) fun g' ⟨j3, hg⟩ => ?_)
  · have e := ev_iRev (a := eF (s_reached srt) (aCons (eV 0) (aCons (eV 1) aNil))) (r := vI [.im (eSky S), .im (.int most), .mu (.dict []), .no, .no]) (ev_F (ev_cons rfl (ev_cons rfl rfl)) hr)
    rw [← List.map_reverse] at e
    exact e
  · subst hg
    refine ⟨_, rfl, ?_⟩
    have hsR : s ∈ R := List.mem_reverse.mp (by rw [hd]; simp)
    have hso := hR.ok s hsR
    have hnd : R.reverse.Nodup := (List.reverse_perm R).nodup_iff.mpr hR.nd
    have hup : R.reverse.Pairwise fun a b => b.look ≤ a.look := List.pairwise_reverse.mpr hR.up
    rw [hd] at hnd hup
    have hnd1 := List.nodup_append.mp hnd
    have hup1 := List.pairwise_append.mp hup
    have hsd : s ∉ done := fun q => hnd1.2.2 s q s List.mem_cons_self rfl
    have hbd : ∀ take ∈ movesT S s, ∀ b ∈ behT srt S most s take, getN (done.map fun s => (s, vS srt S most s)) b = some (vS srt S most b) := fun take ht b hb => by
      have hbR := hR.clo s hsR take ht b hb
      have hbl := (behT_ok hs hso hb).2
      have : b ∈ done ++ s :: rest := by rw [← hd]; exact List.mem_reverse.mpr hbR
      rcases List.mem_append.mp this with q | q
      · exact vals_at hnd1.1 q
      · rcases List.mem_cons.mp q with q | q
        · rw [q] at hbl; omega
        · have := (List.pairwise_cons.mp hup1.2.1).1 b q
          omega
    have hmv := r_moves_of ok hso
    have hlc := ev_lcA (enc := mvS) (tg := .n 4) (el := eF (s_sure_by srt) (aCons (eV 0) (aCons (eV 3) (aCons (eV 4) (aCons (eV 2) (aCons (eV 1) aNil)))))) (src := iL (eF s_moves_of (aCons (eV 0) (aCons (eV 3) aNil))))
      (r := vA [.im (eSky S), .im (.int most), .mu (eNum (done.map fun s => (s, vS srt S most s))), .im (eSt s), .no]) (fun take => .int (sbT srt S most (vS srt S most) s take)) (xs := movesT S s)
      (ev_iL (ev_F (ev_cons rfl (ev_cons rfl rfl)) hmv)) (by unfold movesT; split <;> (show _ ≤ LIM; rw [hL]; simp)) fun take ht => ⟨_, rfl, ev_F (ev_cons rfl (ev_cons rfl (ev_cons rfl (ev_cons rfl (ev_cons rfl rfl))))) (r_sure_by hs ok hso hm take (hbd take ht)), rfl⟩
    have hmax := fMax_moves (S := S) (s := s) (sbT srt S most (vS srt S most) s)
    have hv : (if mayT S s then max (sbT srt S most (vS srt S most) s false) (sbT srt S most (vS srt S most) s true) else sbT srt S most (vS srt S most) s false) = vS srt S most s := (vS_eq hs hso).symm
    rw [hv] at hmax
    have hlen : done.length < LIM := by
      have q := hR.len
      have q2 : R.reverse.length = _ := congrArg List.length hd
      rw [List.length_reverse, List.length_append, List.length_cons] at q2
      omega
    have hst : sStD 2 3 (eF fMax (aCons (eLc (iL (eF s_moves_of (aCons (eV 0) (aCons (eV 3) aNil)))) (.n 4) tTrue (eF (s_sure_by srt) (aCons (eV 0) (aCons (eV 3) (aCons (eV 4) (aCons (eV 2) (aCons (eV 1) aNil))))))) aNil))
        [.im (eSky S), .im (.int most), .mu (eNum (done.map fun s => (s, vS srt S most s))), .im (eSt s), .no] = some (.nx [.im (eSky S), .im (.int most), .mu (eNum ((done ++ [s]).map fun s => (s, vS srt S most s))), .im (eSt s), .no]) := by
      unfold sStD
      show ((eF fMax _ _).bind _) = _
      rw [ev_F (ev_cons hlc rfl) hmax, Option.bind_some]
      show (if _ then _ else _) = _
      rw [if_pos (by rw [isKey_st, List.length_map, List.length_map, decide_eq_true hlen]; rfl)]
      have := kPut_new .int (done.map fun s => (s, vS srt S most s)) s (vS srt S most s) (by rw [keys_of]; exact hsd)
      have e : kPut ((done.map fun s => (s, vS srt S most s)).map eKv) (eSt s) (.int (vS srt S most s)) = ((done ++ [s]).map fun s => (s, vS srt S most s)).map eKv := by
        rw [List.map_append]
        exact this
      rw [e]
      rfl
    exact ⟨_, hst, _, rfl⟩
  · subst hg
    exact ev_ret rfl
theorem r_sure_table (hs : Srt srt) {S : Sky} {most : Int} {M : Num} (h : s_sure_numbers srt [eSky S, .int most] = some (eNum M)) : ∃ T : Num, s_sure_table srt [eSky S, .int most] = some (.list (T.map eRow)) ∧ T.Perm M := by
  obtain ⟨T, h1, h2⟩ := hs.map eRow M
  refine ⟨T, ?_, h2⟩
  have e : (M.map eKv).map (fun p => PyData.tuple [p.1, p.2]) = M.map eRow := by rw [List.map_map]; rfl
  have hI : fSortedI srt [eNum M] = some (.list (T.map eRow)) := by
    show (if ((M.map eKv).map fun p => PyData.tuple [p.1, p.2]).all isRow = true then some (PyData.list (srt ((M.map eKv).map fun p => PyData.tuple [p.1, p.2]))) else none) = _
    rw [e, h1, if_pos (List.all_eq_true.mpr fun d hd => by obtain ⟨p, _, rfl⟩ := List.mem_map.mp hd; exact isState_st p.1)]
  refine ev_run rfl ?_; unfold b_sure_table; simp only [List.map_cons, List.map_nil, List.length_cons, List.length_nil, Nat.reduceAdd, Nat.reduceSub, List.replicate, List.cons_append, List.nil_append, Nat.zero_add, Nat.sub_self]
  exact ev_ret (ev_F (ev_cons (ev_F (ev_cons rfl (ev_cons rfl rfl)) h) rfl) hI)
/-- the rule's move -/
def ruleT (srt : List D → List D) (S : Sky) (most : Int) (s : St) : Bool := mayT S s && decide (sbT srt S most (vS srt S most) s true = vS srt S most s)
def eRl (srt : List D → List D) (S : Sky) (most : Int) (s : St) : D := .tuple [eSt s, mvS (ruleT srt S most s)]
theorem mvS_nd (b : Bool) : nd (mvS b) = true := by cases b <;> rfl
theorem r_sure_rule (hs : Srt srt) {S : Sky} (ok : SkyOk S) {most : Int} (h0 : 0 ≤ most) (hm : most ≤ 3) {R : List St} (hR : ROk srt S most R) {M : Num} (hM : M.Perm (R.map fun s => (s, vS srt S most s))) (h : s_sure_numbers srt [eSky S, .int most] = some (eNum M)) :
    ∃ R2 : List St, s_sure_rule srt [eSky S, .int most] = some (.list (R2.map (eRl srt S most))) ∧ R2.Perm R := by
  have hL : LIM = 16777216 := rfl
  have hkeys : (M.map (·.1)).Perm R := by
    have := hM.map (·.1)
    rw [keys_of] at this
    exact this
  have hMn : (M.map (·.1)).Nodup := hkeys.nodup_iff.mpr hR.nd
  have hget : ∀ s ∈ R, getN M s = some (vS srt S most s) := fun s hsR => getN_some hMn (hM.mem_iff.mpr (List.mem_map.mpr ⟨s, hsR, rfl⟩))
  obtain ⟨R2, r1, r2⟩ := hs.map eSt (M.map (·.1))
  have r3 := r2.trans hkeys
  have hD : fSortedD srt [eNum M] = some (.list (R2.map eSt)) := by
    have e : (M.map eKv).map (·.1) = (M.map (·.1)).map eSt := by rw [List.map_map, List.map_map]; rfl
    show (if ((M.map eKv).map (·.1)).all isState = true then some (PyData.list (srt ((M.map eKv).map (·.1)))) else none) = _
    rw [e, if_pos (states_all _), r1]
  refine ⟨R2, ?_, r3⟩
  refine ev_run rfl ?_; unfold b_sure_rule; simp only [List.map_cons, List.map_nil, List.length_cons, List.length_nil, Nat.reduceAdd, Nat.reduceSub, List.replicate, List.cons_append, List.nil_append, Nat.zero_add, Nat.sub_self]
  refine ev_seq (ev_asg (ev_F (ev_cons rfl (ev_cons rfl rfl)) h) rfl) (ev_seq (ev_new rfl) (runs_go (runs_for (enc := eSt) (xs := R2) (fun done g => ∃ j4 j5 : Sl, g = [.im (eSky S), .im (.int most), .im (eNum M), .mu (.list (done.map (eRl srt S most))), j4, j5]) (ev_iL (ev_F (ev_cons rfl rfl) hD)) ⟨.no, .no, rfl⟩ (fun done s rest hd g ⟨j4, j5, hg⟩ => ?_) fun g' h => h) fun g' ⟨j4, j5, hg⟩ => ?_))
  · subst hg
    refine ⟨_, rfl, ?_⟩
    have hsR : s ∈ R := r3.mem_iff.mp (by rw [hd]; simp)
    have hso := hR.ok s hsR
    have hmt := r_may_take ok hso
    have hlen : done.length < LIM := by
      have q := r3.length_eq
      have q2 := hR.len
      rw [hd, List.length_append, List.length_cons] at q
      omega
    have htest : tAnd (tTr (eF s_may_take (aCons (eV 0) (aCons (eV 4) aNil)))) (tC cEq (eF (s_sure_by srt) (aCons (eV 0) (aCons (eV 4) (aCons (eC (.str "take")) (aCons (eV 2) (aCons (eV 1) aNil)))))) (eB oGet (eV 2) (eV 4)))
        (vA [.im (eSky S), .im (.int most), .im (eNum M), .mu (.list (done.map (eRl srt S most))), .im (eSt s), .im (.str "leave")]) = some (ruleT srt S most s) :=
      ev_AndP (ev_Tr (ev_F (ev_cons rfl (ev_cons rfl rfl)) hmt) rfl) fun hk => by
        have ht : true ∈ movesT S s := by unfold movesT; rw [hk]; simp
        have hsb := r_sure_by hs ok hso hm true (m := M) (f := vS srt S most) fun b hb => hget b (hR.clo s hsR true ht b hb)
        exact ev_tC (ev_F (ev_cons rfl (ev_cons rfl (ev_cons rfl (ev_cons rfl (ev_cons rfl rfl))))) hsb) (ev_B rfl rfl (oGet_num (hget s hsR))) rfl
    have hif : sIf (tAnd (tTr (eF s_may_take (aCons (eV 0) (aCons (eV 4) aNil)))) (tC cEq (eF (s_sure_by srt) (aCons (eV 0) (aCons (eV 4) (aCons (eC (.str "take")) (aCons (eV 2) (aCons (eV 1) aNil)))))) (eB oGet (eV 2) (eV 4)))) (sAsg (.n 5) (eC (.str "take"))) sNil
        [.im (eSky S), .im (.int most), .im (eNum M), .mu (.list (done.map (eRl srt S most))), .im (eSt s), .im (.str "leave")] = some (.nx [.im (eSky S), .im (.int most), .im (eNum M), .mu (.list (done.map (eRl srt S most))), .im (eSt s), .im (mvS (ruleT srt S most s))]) := by
      refine ev_if htest (fun hk => ?_) fun hk => ?_
      · rw [hk]; rfl
      · rw [hk]; rfl
    apply runs_of
    · exact ev_seq (ev_asg rfl rfl) (ev_seq hif (ev_app1 rfl (ev_tup (ev_cons rfl (ev_cons rfl rfl)) (by show (nd (eSt s) && (nd (mvS (ruleT srt S most s)) && true)) = true; rw [mvS_nd]; rfl) rfl) (by rw [List.length_map]; exact hlen) rfl))
    · rw [List.map_append]
      exact ⟨_, _, rfl⟩
  · subst hg
    exact ev_ret rfl
end
end Sk
/-! SkPure9: is_sure_lower, is_sure_upper -/
namespace Sk
open PySem
/-- for with a way out -/
theorem for_out {α : Type} {enc : α → D} {src : FI} {tg : Tg} {sa sb : SE} {g : Gam} {xs : List α} {o : Out → Prop} (P : List α → Gam → Prop) (Bad : Prop) (d : D) (h : src (vI g) = some (xs.map enc)) (h0 : P [] g)
    (hs : ∀ done x rest, xs = done ++ x :: rest → ∀ g, P done g → ∃ g', tg.gam (enc x) g = some g' ∧ ((∃ g'', sa g' = some (.nx g'') ∧ P (done ++ [x]) g'') ∨ (sa g' = some (.rt d) ∧ Bad)))
    (hk : ∀ g', P xs g' → ∃ r, sb g' = some r ∧ o r) (hb : Bad → o (.rt d)) : ∃ r, sSeq (sFor src tg sa) sb g = some r ∧ o r := by
  obtain ⟨r, h1, h2⟩ := forGo_map (fun e => e = d ∧ Bad) (fun _ => False) P xs g h0 fun done x rest e g hg => by
    obtain ⟨g', q1, q2⟩ := hs done x rest e g hg
    rcases q2 with ⟨g'', q2, q3⟩ | ⟨q2, q3⟩
    · exact ⟨g', _, q1, q2, q3⟩
    · exact ⟨g', _, q1, q2, rfl, q3⟩
  cases r with
  | nx g' =>
    rcases h2 with h2 | h2
    · obtain ⟨r, q1, q2⟩ := hk g' h2
      exact ⟨r, ev_seq (ev_for h h1) q1, q2⟩
    · exact h2.elim
  | rt e =>
    obtain ⟨rfl, hB⟩ := h2
    exact ⟨_, ev_seqR (ev_for h h1), hb hB⟩
  | bk g' => exact h2.elim
theorem dBools_map : ∀ bs : List Bool, dBools (bs.map .bool) = some bs
  | [] => rfl
  | b :: bs => by rw [List.map_cons, dBools, dBools_map bs]; rfl
theorem fAll_map {α : Type} (f : α → Bool) (xs : List α) : fAll [.list (xs.map fun x => .bool (f x))] = some (.bool (xs.all f)) := by
  show (dBools _).map _ = _
  rw [show (xs.map fun x => PyData.bool (f x)) = (xs.map f).map .bool by rw [List.map_map]; rfl, dBools_map]
  show some (PyData.bool ((xs.map f).all id)) = _
  rw [List.all_map]
  rfl
theorem fAny_map {α : Type} (f : α → Bool) (xs : List α) : fAny [.list (xs.map fun x => .bool (f x))] = some (.bool (xs.any f)) := by
  show (dBools _).map _ = _
  rw [show (xs.map fun x => PyData.bool (f x)) = (xs.map f).map .bool by rw [List.map_map]; rfl, dBools_map]
  show some (PyData.bool ((xs.map f).any id)) = _
  rw [List.any_map]
  rfl
def valN (m : Num) (s : St) : Int := (getN m s).getD 0
theorem valN_at {m : Num} {s : St} (h : s ∈ m.map (·.1)) : getN m s = some (valN m s) := by
  unfold valN
  cases e : getN m s with
  | some v => rfl
  | none =>
    exfalso
    induction m with
    | nil => cases h
    | cons p m ih =>
      unfold getN at e
      by_cases c : p.1 = s
      · rw [if_pos c] at e; cases e
      · rw [if_neg c] at e
        rw [List.map_cons, List.mem_cons] at h
        exact ih (h.resolve_left fun q => c q.symm) e
theorem fLenD_num (m : Num) : fLenD [eNum m] = some (eN m.length) := by
  show some (PyData.int ((m.map eKv).length : Nat)) = _
  rw [List.length_map]
section
variable {srt : List D → List D}
/-- all behind have numbers, and the move is worth the number -/
def goodB (srt : List D → List D) (S : Sky) (most : Int) (rows : Num) (p : St × Int) (take : Bool) : Bool := decide (∀ b ∈ behT srt S most p.1 take, b ∈ rows.map (·.1)) && decide (p.2 ≤ sbT srt S most (valN rows) p.1 take)
def LowT (srt : List D → List D) (S : Sky) (most : Int) (rows : Num) : Prop := (∀ f ∈ firstT S most, f ∈ rows.map (·.1)) ∧ ∀ p ∈ rows, ∃ take ∈ movesT S p.1, goodB srt S most rows p take = true
theorem decide_all {α : Type} (l m : List α) (q : α → Prop) [DecidablePred q] (hp : l.Perm m) : (l.all fun x => decide (q x)) = decide (∀ x ∈ m, q x) := by
  by_cases h : ∀ x ∈ m, q x
  · rw [decide_eq_true h]
    exact List.all_eq_true.mpr fun x hx => decide_eq_true (h x (hp.mem_iff.mp hx))
  · rw [decide_eq_false h]
    refine Bool.eq_false_iff.mpr fun e => h fun x hx => ?_
    have := List.all_eq_true.mp e x (hp.mem_iff.mpr hx)
    exact of_decide_eq_true this
theorem r_is_sure_lower (hs : Srt srt) {S : Sky} (ok : SkyOk S) {most : Int} (h0 : 0 ≤ most) (hm : most ≤ 3) {rows : Num} (hn : (rows.map (·.1)).Nodup) (hok : ∀ p ∈ rows, StOk S most p.1) :
    ∃ k : Bool, s_is_sure_lower srt [eSky S, .list (rows.map eRow), .int most] = some (.bool k) ∧ (k = true ↔ LowT srt S most rows) := by
  have hL : LIM = 16777216 := rfl
  have hd := fDict_rows hn
  obtain ⟨ys, y1, y2⟩ := r_first_states hs ok h0
  have hyl : ys.length ≤ 8 := by
    rw [y2.length_eq]
    exact lv_len (srt := srt) (most := most) ok 0
  have hne : cNe (eN rows.length) (eN rows.length) = some false := by
    show some (!deq 8 (eN rows.length) (eN rows.length)) = _
    rw [deq_nat, decide_eq_true rfl]; rfl
  have hall : tNot (tTr (eF fAll (aCons (eLc (iL (eF (s_first_states srt) (aApp (aCons (eV 0) aNil) (aCons (eV 2) aNil)))) (.n 9) tTrue (eT (tC cInD (eV 9) (eV 3)))) aNil)))
      (vA [.im (eSky S), .im (.list (rows.map eRow)), .im (.int most), .im (eNum rows), .no, .no, .no, .no, .no, .no]) = some (!decide (∀ f ∈ firstT S most, f ∈ rows.map (·.1))) := by
    rw [← decide_all ys (firstT S most) (fun f => f ∈ rows.map (·.1)) y2]
    exact ev_Not (ev_Tr (ev_F (ev_cons (ev_lcA (enc := eSt) (fun s => .bool (decide (s ∈ rows.map (·.1)))) (xs := ys) (ev_iL (ev_F (ev_app (ev_cons rfl rfl) (ev_cons rfl rfl)) y1)) (by omega) fun s _ => ⟨_, rfl, ev_T (ev_tC rfl rfl (cInD_num rows s)), rfl⟩) rfl) (fAll_map (fun s => decide (s ∈ rows.map (·.1))) ys)) rfl)
  have htest : tOr (tC cNe (eF fLenD (aCons (eV 3) aNil)) (eF fLen (aCons (eV 1) aNil))) (tNot (tTr (eF fAll (aCons (eLc (iL (eF (s_first_states srt) (aApp (aCons (eV 0) aNil) (aCons (eV 2) aNil)))) (.n 9) tTrue (eT (tC cInD (eV 9) (eV 3)))) aNil))))
      (vA [.im (eSky S), .im (.list (rows.map eRow)), .im (.int most), .im (eNum rows), .no, .no, .no, .no, .no, .no]) = some (!decide (∀ f ∈ firstT S most, f ∈ rows.map (·.1))) := by
    have := ev_tOr (ev_tC (a := eF fLenD (aCons (eV 3) aNil)) (b := eF fLen (aCons (eV 1) aNil)) (ev_F (ev_cons rfl rfl) (fLenD_num rows)) (ev_F (ev_cons rfl rfl) (fLen_map eRow rows)) hne) hall
    rw [Bool.false_or] at this
    exact this
  suffices H : ∃ r, b_is_sure_lower srt [.im (eSky S), .im (.list (rows.map eRow)), .im (.int most), .no, .no, .no, .no, .no, .no, .no] = some r ∧ ∃ k : Bool, r = .rt (.bool k) ∧ (k = true ↔ LowT srt S most rows) by
    obtain ⟨r, h1, k, rfl, h2⟩ := H
    exact ⟨k, ev_run rfl h1, h2⟩
  unfold b_is_sure_lower
  by_cases hf : ∀ f ∈ firstT S most, f ∈ rows.map (·.1)
  · rw [decide_eq_true hf] at htest
    have key := for_out (enc := eRow) (xs := rows) (src := iL (eV 1)) (tg := .t [4, 5]) (sb := sRet (eC (.bool true)))
      (sa := sSeq (sAsg (.n 6) (eC (.bool false))) (sSeq (sFor (iL (eF s_moves_of (aCons (eV 0) (aCons (eV 4) aNil)))) (.n 7)
        (sSeq (sAsg (.n 8) (eF (s_states_behind srt) (aApp (aCons (eV 0) (aCons (eV 4) (aCons (eV 7) aNil))) (aCons (eV 2) aNil)))) (sIf (tAnd (tTr (eF fAll (aCons (eLc (iL (eV 8)) (.n 9) tTrue (eT (tC cInD (eV 9) (eV 3)))) aNil))) (tC cGe (eF (s_sure_by srt) (aCons (eV 0) (aCons (eV 4) (aCons (eV 7) (aCons (eV 3) (aCons (eV 2) aNil)))))) (eV 5)))
        (sAsg (.n 6) (eC (.bool true)))
        sNil))) (sIf (tNot (tTr (eV 6)))
        (sRet (eC (.bool false)))
        sNil)))
      (g := [.im (eSky S), .im (.list (rows.map eRow)), .im (.int most), .im (eNum rows), .no, .no, .no, .no, .no, .no]) (o := fun r => ∃ k : Bool, r = .rt (.bool k) ∧ (k = true ↔ LowT srt S most rows))
      (fun done g => ∃ j4 j5 j6 j7 j8, g = [.im (eSky S), .im (.list (rows.map eRow)), .im (.int most), .im (eNum rows), j4, j5, j6, j7, j8, .no] ∧ ∀ p ∈ done, ∃ take ∈ movesT S p.1, goodB srt S most rows p take = true)
      (∃ p ∈ rows, ∀ take ∈ movesT S p.1, goodB srt S most rows p take = false) (.bool false) (ev_iL rfl) ⟨_, _, _, _, _, rfl, fun _ h => by cases h⟩ (fun done p rest hd g ⟨j4, j5, j6, j7, j8, hg, hP⟩ => ?_) (fun g' ⟨j4, j5, j6, j7, j8, hg, hP⟩ => ⟨_, ev_ret rfl, true, rfl, fun _ => ⟨hf, hP⟩, fun _ => rfl⟩) fun ⟨p, hp, hB⟩ => ⟨false, rfl, fun h => (by cases h), fun h => by
        obtain ⟨take, ht, hg⟩ := h.2 p hp
        rw [hB take ht] at hg
        cases hg⟩
    · obtain ⟨r, h1, h2⟩ := key
      exact ⟨r, ev_seq (ev_asg (ev_F (ev_cons rfl rfl) hd) rfl) (ev_seq (ev_ifF htest rfl) h1), h2⟩
    · subst hg
      refine ⟨_, rfl, ?_⟩
      have hpr : p ∈ rows := by rw [hd]; simp
      have hso := hok p hpr
      have hmv := r_moves_of ok hso
      have inner : Runs (sFor (iL (eF s_moves_of (aCons (eV 0) (aCons (eV 4) aNil)))) (.n 7)
        (sSeq (sAsg (.n 8) (eF (s_states_behind srt) (aApp (aCons (eV 0) (aCons (eV 4) (aCons (eV 7) aNil))) (aCons (eV 2) aNil)))) (sIf (tAnd (tTr (eF fAll (aCons (eLc (iL (eV 8)) (.n 9) tTrue (eT (tC cInD (eV 9) (eV 3)))) aNil))) (tC cGe (eF (s_sure_by srt) (aCons (eV 0) (aCons (eV 4) (aCons (eV 7) (aCons (eV 3) (aCons (eV 2) aNil)))))) (eV 5)))
        (sAsg (.n 6) (eC (.bool true)))
        sNil))) [.im (eSky S), .im (.list (rows.map eRow)), .im (.int most), .im (eNum rows), .im (eSt p.1), .im (.int p.2), .im (.bool false), j7, j8, .no]
        (fun g => ∃ j7 j8, g = [.im (eSky S), .im (.list (rows.map eRow)), .im (.int most), .im (eNum rows), .im (eSt p.1), .im (.int p.2), .im (.bool ((movesT S p.1).any (goodB srt S most rows p))), j7, j8, .no]) := by
        refine runs_for (enc := mvS) (xs := movesT S p.1) (fun dm g => ∃ j7 j8, g = [.im (eSky S), .im (.list (rows.map eRow)), .im (.int most), .im (eNum rows), .im (eSt p.1), .im (.int p.2), .im (.bool (dm.any (goodB srt S most rows p))), j7, j8, .no])
          (ev_iL (ev_F (ev_cons rfl (ev_cons rfl rfl)) hmv)) ⟨_, _, rfl⟩ (fun dm take rest2 hd2 g ⟨k7, k8, hg⟩ => ?_) fun g h => h
        subst hg
        refine ⟨_, rfl, ?_⟩
        obtain ⟨bs, b1, b2⟩ := r_states_behind hs ok hso hm take
        have hbl : bs.length ≤ 8 := by rw [b2.length_eq]; exact behT_len ok
        have hA : tTr (eF fAll (aCons (eLc (iL (eV 8)) (.n 9) tTrue (eT (tC cInD (eV 9) (eV 3)))) aNil)) (vA [.im (eSky S), .im (.list (rows.map eRow)), .im (.int most), .im (eNum rows), .im (eSt p.1), .im (.int p.2), .im (.bool (dm.any (goodB srt S most rows p))), .im (mvS take), .im (.list (bs.map eSt)), .no])
            = some (decide (∀ b ∈ behT srt S most p.1 take, b ∈ rows.map (·.1))) := by
          rw [← decide_all bs (behT srt S most p.1 take) (fun f => f ∈ rows.map (·.1)) b2]
          exact ev_Tr (ev_F (ev_cons (ev_lcA (enc := eSt) (fun s => .bool (decide (s ∈ rows.map (·.1)))) (xs := bs) (ev_iL rfl) (by omega) fun s _ => ⟨_, rfl, ev_T (ev_tC rfl rfl (cInD_num rows s)), rfl⟩) rfl) (fAll_map (fun s => decide (s ∈ rows.map (·.1))) bs)) rfl
        have hT : tAnd (tTr (eF fAll (aCons (eLc (iL (eV 8)) (.n 9) tTrue (eT (tC cInD (eV 9) (eV 3)))) aNil))) (tC cGe (eF (s_sure_by srt) (aCons (eV 0) (aCons (eV 4) (aCons (eV 7) (aCons (eV 3) (aCons (eV 2) aNil)))))) (eV 5))
            (vA [.im (eSky S), .im (.list (rows.map eRow)), .im (.int most), .im (eNum rows), .im (eSt p.1), .im (.int p.2), .im (.bool (dm.any (goodB srt S most rows p))), .im (mvS take), .im (.list (bs.map eSt)), .no]) = some (goodB srt S most rows p take) :=
          ev_AndP hA fun hk => ev_tC (ev_F (ev_cons rfl (ev_cons rfl (ev_cons rfl (ev_cons rfl (ev_cons rfl rfl))))) (r_sure_by hs ok hso hm take (m := rows) (f := valN rows) fun b hb => valN_at (of_decide_eq_true hk b hb))) rfl rfl
        refine runs_seq (P := fun g => g = [.im (eSky S), .im (.list (rows.map eRow)), .im (.int most), .im (eNum rows), .im (eSt p.1), .im (.int p.2), .im (.bool (dm.any (goodB srt S most rows p))), .im (mvS take), .im (.list (bs.map eSt)), .no]) (runs_of (ev_asg (ev_F (ev_app (ev_cons rfl (ev_cons rfl (ev_cons rfl rfl))) (ev_cons rfl rfl)) b1) rfl) rfl) fun g hg => ?_
        subst hg
        rw [List.any_append, List.any_cons, List.any_nil, Bool.or_false]
        refine runs_if hT (fun hk => ?_) fun hk => ?_
        · rw [hk, Bool.or_true]
          exact ⟨_, rfl, _, _, rfl⟩
        · rw [hk, Bool.or_false]
          exact ⟨_, rfl, _, _, rfl⟩
      obtain ⟨g1, i1, k7, k8, rfl⟩ := inner
      cases hk : (movesT S p.1).any (goodB srt S most rows p) with
      | true =>
        rw [hk] at i1
        refine .inl ⟨_, ev_seq (ev_asg rfl rfl) (ev_seq i1 (ev_ifF (ev_Not (k := true) (ev_Tr rfl rfl)) rfl)), _, _, _, _, _, rfl, fun q hq => ?_⟩
        rcases List.mem_append.mp hq with hq | hq
        · exact hP q hq
        · rw [List.mem_singleton.mp hq]
          exact List.any_eq_true.mp hk
      | false =>
        rw [hk] at i1
        refine .inr ⟨ev_seq (ev_asg rfl rfl) (ev_seq i1 (ev_ifT (ev_Not (k := false) (ev_Tr rfl rfl)) (ev_ret rfl))), p, hpr, fun take ht => ?_⟩
        have := List.any_eq_false.mp hk take ht
        simpa using this
  · rw [decide_eq_false hf] at htest
    exact ⟨_, ev_seq (ev_asg (ev_F (ev_cons rfl rfl) hd) rfl) (ev_seqR (ev_ifT htest (ev_ret rfl))), false, rfl, fun h => (by cases h), fun h => absurd h.1 hf⟩
def UpT (srt : List D → List D) (S : Sky) (most : Int) (rows : Num) : Prop := ∀ p ∈ rows, ∀ take ∈ movesT S p.1, sbT srt S most (valN rows) p.1 take ≤ p.2
/-- of rows that are closed -/
theorem r_is_sure_upper (hs : Srt srt) {S : Sky} (ok : SkyOk S) {most : Int} (h0 : 0 ≤ most) (hm : most ≤ 3) {rows : Num} (hn : (rows.map (·.1)).Nodup) (hok : ∀ p ∈ rows, StOk S most p.1) (hfi : ∀ f ∈ firstT S most, f ∈ rows.map (·.1)) (hcl : ∀ p ∈ rows, Clo srt S most (rows.map (·.1)) p.1) :
    ∃ k : Bool, s_is_sure_upper srt [eSky S, .list (rows.map eRow), .int most] = some (.bool k) ∧ (k = true → UpT srt S most rows) := by
  have hL : LIM = 16777216 := rfl
  have hd := fDict_rows hn
  obtain ⟨ys, y1, y2⟩ := r_first_states hs ok h0
  have hyl : ys.length ≤ 8 := by
    rw [y2.length_eq]
    exact lv_len (srt := srt) (most := most) ok 0
  have hne : cNe (eN rows.length) (eN rows.length) = some false := by
    show some (!deq 8 (eN rows.length) (eN rows.length)) = _
    rw [deq_nat, decide_eq_true rfl]; rfl
  have hall : tAnd (tTr (eV 4)) (tNot (tTr (eF fAny (aCons (eLc (iL (eV 4)) (.n 10) tTrue (eT (tC cInD (eV 10) (eV 3)))) aNil))))
      (vA [.im (eSky S), .im (.list (rows.map eRow)), .im (.int most), .im (eNum rows), .im (.list (ys.map eSt)), .no, .no, .no, .no, .no, .no]) = some false := by
    have := ev_And (ev_Tr (a := eV 4) (r := vA [.im (eSky S), .im (.list (rows.map eRow)), .im (.int most), .im (eNum rows), .im (.list (ys.map eSt)), .no, .no, .no, .no, .no, .no]) (x := .list (ys.map eSt)) (k := !(ys.map eSt).isEmpty) rfl rfl) (ev_Not (ev_Tr (ev_F (ev_cons (bs := aNil) (ev_lcA (enc := eSt) (tg := .n 10) (el := eT (tC cInD (eV 10) (eV 3))) (src := iL (eV 4)) (fun s => .bool (decide (s ∈ rows.map (·.1)))) (xs := ys) (ev_iL rfl) (by omega) fun s _ => ⟨_, rfl, ev_T (ev_tC rfl rfl (cInD_num rows s)), rfl⟩) rfl) (fAny_map (fun s => decide (s ∈ rows.map (·.1))) ys)) rfl))
    rw [this]
    cases ys with
    | nil => rfl
    | cons y ys =>
      rw [List.any_cons, decide_eq_true (hfi y (y2.mem_iff.mp List.mem_cons_self))]
      rfl
  have htest : tOr (tC cNe (eF fLenD (aCons (eV 3) aNil)) (eF fLen (aCons (eV 1) aNil))) (tAnd (tTr (eV 4)) (tNot (tTr (eF fAny (aCons (eLc (iL (eV 4)) (.n 10) tTrue (eT (tC cInD (eV 10) (eV 3)))) aNil)))))
      (vA [.im (eSky S), .im (.list (rows.map eRow)), .im (.int most), .im (eNum rows), .im (.list (ys.map eSt)), .no, .no, .no, .no, .no, .no]) = some false :=
    ev_tOr (k := false) (l := false) (ev_tC (a := eF fLenD (aCons (eV 3) aNil)) (b := eF fLen (aCons (eV 1) aNil)) (ev_F (ev_cons rfl rfl) (fLenD_num rows)) (ev_F (ev_cons rfl rfl) (fLen_map eRow rows)) hne) hall
  suffices H : ∃ r, b_is_sure_upper srt [.im (eSky S), .im (.list (rows.map eRow)), .im (.int most), .no, .no, .no, .no, .no, .no, .no, .no] = some r ∧ ∃ k : Bool, r = .rt (.bool k) ∧ (k = true → UpT srt S most rows) by
    obtain ⟨r, h1, k, rfl, h2⟩ := H
    exact ⟨k, ev_run rfl h1, h2⟩
  unfold b_is_sure_upper
  -- a row
  have row : ∀ (p : St × Int), p ∈ rows → ∀ j7 j8 j9 : Sl, ∃ r, sFor (iL (eF s_moves_of (aCons (eV 0) (aCons (eV 5) aNil)))) (.n 7)
        (sSeq (sAsg (.n 8) (eF (s_states_behind srt) (aApp (aCons (eV 0) (aCons (eV 5) (aCons (eV 7) aNil))) (aCons (eV 2) aNil)))) (sSeq (sAsg (.n 9) (eLc (iL (eV 8)) (.n 10) (tC cInD (eV 10) (eV 3)) (eB oGet (eV 3) (eV 10)))) (sIf (tOr (tAnd (tTr (eV 8)) (tNot (tTr (eV 9)))) (tC cGt (eB oAdd (eF s_gain_of (aCons (eV 0) (aCons (eV 5) (aCons (eV 7) aNil)))) (eF fMinD (aCons (eV 9) (aCons (eC (.int 0)) aNil)))) (eV 6)))
        (sRet (eC (.bool false)))
        sNil)))
        [.im (eSky S), .im (.list (rows.map eRow)), .im (.int most), .im (eNum rows), .im (.list (ys.map eSt)), .im (eSt p.1), .im (.int p.2), j7, j8, j9, .no] = some r ∧
        ((∃ j7 j8 j9 : Sl, r = .nx [.im (eSky S), .im (.list (rows.map eRow)), .im (.int most), .im (eNum rows), .im (.list (ys.map eSt)), .im (eSt p.1), .im (.int p.2), j7, j8, j9, .no] ∧ ∀ take ∈ movesT S p.1, sbT srt S most (valN rows) p.1 take ≤ p.2) ∨ r = .rt (.bool false)) := by
    intro p hpr j7 j8 j9
    have hso := hok p hpr
    have hmv := r_moves_of ok hso
    obtain ⟨r, h1, h2⟩ := forGo_map (enc := mvS) (tg := .n 7) (body := sSeq (sAsg (.n 8) (eF (s_states_behind srt) (aApp (aCons (eV 0) (aCons (eV 5) (aCons (eV 7) aNil))) (aCons (eV 2) aNil)))) (sSeq (sAsg (.n 9) (eLc (iL (eV 8)) (.n 10) (tC cInD (eV 10) (eV 3)) (eB oGet (eV 3) (eV 10)))) (sIf (tOr (tAnd (tTr (eV 8)) (tNot (tTr (eV 9)))) (tC cGt (eB oAdd (eF s_gain_of (aCons (eV 0) (aCons (eV 5) (aCons (eV 7) aNil)))) (eF fMinD (aCons (eV 9) (aCons (eC (.int 0)) aNil)))) (eV 6)))
        (sRet (eC (.bool false)))
        sNil))) (fun d => d = .bool false) (fun _ => False)
      (fun dm g => ∃ j7 j8 j9 : Sl, g = [.im (eSky S), .im (.list (rows.map eRow)), .im (.int most), .im (eNum rows), .im (.list (ys.map eSt)), .im (eSt p.1), .im (.int p.2), j7, j8, j9, .no] ∧ ∀ take ∈ dm, sbT srt S most (valN rows) p.1 take ≤ p.2) (movesT S p.1)
      [.im (eSky S), .im (.list (rows.map eRow)), .im (.int most), .im (eNum rows), .im (.list (ys.map eSt)), .im (eSt p.1), .im (.int p.2), j7, j8, j9, .no] ⟨_, _, _, rfl, fun _ h => by cases h⟩ fun dm take rest2 hd2 g ⟨k7, k8, k9, hg, hP⟩ => by
        subst hg
        obtain ⟨bs, b1, b2⟩ := r_states_behind hs ok hso hm take
        have hbl : bs.length ≤ 8 := by rw [b2.length_eq]; exact behT_len ok
        have htm : take ∈ movesT S p.1 := by rw [hd2]; simp
        have hin : ∀ b ∈ bs, b ∈ rows.map (·.1) := fun b hb => hcl p hpr take htm b (b2.mem_iff.mp hb)
        have htold : eLc (iL (eV 8)) (.n 10) (tC cInD (eV 10) (eV 3)) (eB oGet (eV 3) (eV 10)) (vI [.im (eSky S), .im (.list (rows.map eRow)), .im (.int most), .im (eNum rows), .im (.list (ys.map eSt)), .im (eSt p.1), .im (.int p.2), .im (mvS take), .im (.list (bs.map eSt)), k9, .no])
            = some (.list ((bs.map (valN rows)).map .int)) := by
          have := ev_lc (enc := eSt) (src := iL (eV 8)) (tg := .n 10) (tt := tC cInD (eV 10) (eV 3)) (el := eB oGet (eV 3) (eV 10)) (r := vI [.im (eSky S), .im (.list (rows.map eRow)), .im (.int most), .im (eNum rows), .im (.list (ys.map eSt)), .im (eSt p.1), .im (.int p.2), .im (mvS take), .im (.list (bs.map eSt)), k9, .no]) (fun _ => true) (fun b => .int (valN rows b)) (xs := bs) (ev_iL rfl) (by omega) fun b hb => ⟨_, rfl, ev_tC rfl rfl (by rw [cInD_num, decide_eq_true (hin b hb)]), fun _ => ⟨ev_B rfl rfl (oGet_num (valN_at (hin b hb))), rfl⟩⟩
          rw [this, List.filter_eq_self.mpr (fun _ _ => rfl), List.map_map]
          rfl
        have hmin := fMinD_map (bs.map (valN rows))
        rw [minD_perm (b2.map (valN rows))] at hmin
        have hg := r_gain_of ok hso take
        have hT := ev_tOr (ev_And (ev_Tr (a := eV 8) (r := vA [.im (eSky S), .im (.list (rows.map eRow)), .im (.int most), .im (eNum rows), .im (.list (ys.map eSt)), .im (eSt p.1), .im (.int p.2), .im (mvS take), .im (.list (bs.map eSt)), .im (.list ((bs.map (valN rows)).map .int)), .no]) (x := .list (bs.map eSt)) (k := !(bs.map eSt).isEmpty) rfl rfl) (ev_Not (ev_Tr (a := eV 9) (x := .list ((bs.map (valN rows)).map .int)) (k := !((bs.map (valN rows)).map PyData.int).isEmpty) rfl rfl)))
          (ev_tC (g := cGt) (a := eB oAdd (eF s_gain_of (aCons (eV 0) (aCons (eV 5) (aCons (eV 7) aNil)))) (eF fMinD (aCons (eV 9) (aCons (eC (.int 0)) aNil)))) (b := eV 6) (k := decide (p.2 < sbT srt S most (valN rows) p.1 take)) (ev_B (ev_F (ev_cons rfl (ev_cons rfl (ev_cons rfl rfl))) hg) (ev_F (ev_cons rfl (ev_cons rfl rfl)) hmin) rfl) rfl rfl)
        have hk : ((!(bs.map eSt).isEmpty && !!((bs.map (valN rows)).map PyData.int).isEmpty) || decide (p.2 < sbT srt S most (valN rows) p.1 take)) = decide (p.2 < sbT srt S most (valN rows) p.1 take) := by cases bs <;> rfl
        rw [hk] at hT
        by_cases c : p.2 < sbT srt S most (valN rows) p.1 take
        · rw [decide_eq_true c] at hT
          exact ⟨_, .rt (.bool false), rfl, ev_seq (ev_asg (ev_F (ev_app (ev_cons rfl (ev_cons rfl (ev_cons rfl rfl))) (ev_cons rfl rfl)) b1) rfl) (ev_seq (ev_asg htold rfl) (ev_ifT hT (ev_ret rfl))), rfl⟩
        · rw [decide_eq_false c] at hT
          refine ⟨_, .nx _, rfl, ev_seq (ev_asg (ev_F (ev_app (ev_cons rfl (ev_cons rfl (ev_cons rfl rfl))) (ev_cons rfl rfl)) b1) rfl) (ev_seq (ev_asg htold rfl) (ev_ifF hT rfl)), _, _, _, rfl, fun t ht => ?_⟩
          rcases List.mem_append.mp ht with ht | ht
          · exact hP t ht
          · rw [List.mem_singleton.mp ht]; omega
    refine ⟨r, ev_for (ev_iL (ev_F (ev_cons rfl (ev_cons rfl rfl)) hmv)) h1, ?_⟩
    cases r with
    | nx g =>
      rcases h2 with ⟨k7, k8, k9, hg, h⟩ | h
      · exact .inl ⟨k7, k8, k9, by rw [hg], h⟩
      · exact h.elim
    | rt d => exact .inr (by rw [h2])
    | bk g => exact h2.elim
  have key := for_out (enc := eRow) (xs := rows) (src := iL (eV 1)) (tg := .t [5, 6]) (sb := sRet (eC (.bool true)))
    (sa := sFor (iL (eF s_moves_of (aCons (eV 0) (aCons (eV 5) aNil)))) (.n 7)
        (sSeq (sAsg (.n 8) (eF (s_states_behind srt) (aApp (aCons (eV 0) (aCons (eV 5) (aCons (eV 7) aNil))) (aCons (eV 2) aNil)))) (sSeq (sAsg (.n 9) (eLc (iL (eV 8)) (.n 10) (tC cInD (eV 10) (eV 3)) (eB oGet (eV 3) (eV 10)))) (sIf (tOr (tAnd (tTr (eV 8)) (tNot (tTr (eV 9)))) (tC cGt (eB oAdd (eF s_gain_of (aCons (eV 0) (aCons (eV 5) (aCons (eV 7) aNil)))) (eF fMinD (aCons (eV 9) (aCons (eC (.int 0)) aNil)))) (eV 6)))
        (sRet (eC (.bool false)))
        sNil))))
    (g := [.im (eSky S), .im (.list (rows.map eRow)), .im (.int most), .im (eNum rows), .im (.list (ys.map eSt)), .no, .no, .no, .no, .no, .no]) (o := fun r => ∃ k : Bool, r = .rt (.bool k) ∧ (k = true → UpT srt S most rows))
    (fun done g => ∃ j5 j6 j7 j8 j9, g = [.im (eSky S), .im (.list (rows.map eRow)), .im (.int most), .im (eNum rows), .im (.list (ys.map eSt)), j5, j6, j7, j8, j9, .no] ∧ ∀ p ∈ done, ∀ take ∈ movesT S p.1, sbT srt S most (valN rows) p.1 take ≤ p.2)
    True (.bool false) (ev_iL rfl) ⟨_, _, _, _, _, rfl, fun _ h => by cases h⟩ (fun done p rest hd g ⟨j5, j6, j7, j8, j9, hg, hP⟩ => by
      subst hg
      refine ⟨_, rfl, ?_⟩
      obtain ⟨r, h1, h2⟩ := row p (by rw [hd]; simp) j7 j8 j9
      rcases h2 with ⟨k7, k8, k9, rfl, h2⟩ | rfl
      · refine .inl ⟨_, h1, _, _, _, _, _, rfl, fun q hq => ?_⟩
        rcases List.mem_append.mp hq with hq | hq
        · exact hP q hq
        · rw [List.mem_singleton.mp hq]; exact h2
      · exact .inr ⟨h1, trivial⟩) (fun g' ⟨j5, j6, j7, j8, j9, hg, hP⟩ => ⟨_, ev_ret rfl, true, rfl, fun _ => hP⟩) fun _ => ⟨false, rfl, fun h => by cases h⟩
  obtain ⟨r, h1, h2⟩ := key
  exact ⟨r, ev_seq (ev_asg (ev_F (ev_cons rfl rfl) hd) rfl) (ev_seq (ev_asg (ev_F (ev_app (ev_cons rfl rfl) (ev_cons rfl rfl)) y1) rfl) (ev_seq (ev_ifF htest rfl) h1)), h2⟩
end
end Sk
/-! SkPure10: the law's own turn and store -/
namespace Sk
open PySem
/-- what more the law's skies are -/
structure SkyW (S : Sky) : Prop where
  st : ∀ l ∈ S.looks, 0 ≤ l.st ∧ l.st ≤ 1000
  ln : ∀ l ∈ S.looks, 1 ≤ l.ln ∧ l.ln ≤ 1000
  sz : ∀ l ∈ S.looks, 0 ≤ l.sz
  an : ∀ l ∈ S.looks, -30 ≤ l.an ∧ l.an ≤ 30
  up : ∀ i j, i ≤ j → j < S.looks.length → (lkT S i).st ≤ (lkT S j).st
  en : ∀ e ∈ S.ears, 0 ≤ e.1
  eup : ∀ i j, i < j → j < S.ears.length → (S.ears.getD i e0).1 < (S.ears.getD j e0).1
/-! ### the turn -/
theorem ev_iRz {a : FE} {r : Rho} {n : Int} (h : a r = some (.int n)) (h0 : 0 ≤ n) (hn : n.toNat ≤ LIM) : iR a r = some ((List.range n.toNat).map fun (k : Nat) => .int (k : Int)) := by
  have e : n = (n.toNat : Int) := by omega
  rw [e] at h
  have := ev_iR h hn
  exact this
theorem mul_small (a b : Int) (h1 : -1000 < a) (h2 : a < 1000) : oMul (.int a) (.int b) = some (.int (a * b)) := by
  unfold oMul
  exact if_pos (.inl ⟨by omega, by omega⟩)
theorem turn_fact (t d : Int) (h0 : 0 < t) (k : Int) (hk : 0 ≤ k) (h1 : d ≤ k * t) (h2 : k = 0 ∨ (k - 1) * t < d) (hd : 0 ≤ d) : -((-d) / t) = k := by
  have e : (-d) / t = -k := by
    have h3 : -d = t * (-k) + (k * t - d) := by rw [Int.mul_neg, Int.mul_comm t k]; omega
    rw [h3, Int.mul_add_ediv_left _ _ (by omega)]
    have : (k * t - d) / t = 0 := by
      refine Int.ediv_eq_zero_of_lt (by omega) ?_
      rcases h2 with h2 | h2
      · subst h2
        have : (0 : Int) * t = 0 := Int.zero_mul t
        omega
      · rw [Int.sub_mul, Int.one_mul] at h2
        omega
    omega
  omega
theorem r_law_turn {S : Sky} (ok : SkyOk S) (w : SkyW S) {i j : Nat} (hi : i < S.looks.length) (hj : j < S.looks.length) : s_law_turn [eSky S, eN i, eN j] = some (.int (turnT S.turn (lkT S i).an (lkT S j).an)) := by
  have hl := atD_map (f := eLook) (lk_at hi)
  have hl2 := atD_map (f := eLook) (lk_at hj)
  have a1 := w.an _ (List.mem_of_getElem? (lk_at hi))
  have a2 := w.an _ (List.mem_of_getElem? (lk_at hj))
  have t0 := ok.t0
  have hmul : ∀ k : Nat, k ≤ 200 → oMul (eN k) (.int S.turn) = some (.int ((k : Int) * S.turn)) := fun k hk => mul_small (k : Int) S.turn (by omega) (by omega)
  suffices H : ∃ r, b_law_turn [.im (eSky S), .im (eN i), .im (eN j), .no, .no] = some r ∧ r = .rt (.int (turnT S.turn (lkT S i).an (lkT S j).an)) by
    obtain ⟨r, h1, rfl⟩ := H
    exact ev_run rfl h1
  unfold b_law_turn
  generalize hdd : (if (lkT S j).an - (lkT S i).an < 0 then -((lkT S j).an - (lkT S i).an) else (lkT S j).an - (lkT S i).an) = d
  have hd0 : 0 ≤ d := by split at hdd <;> omega
  have hd60 : d ≤ 60 := by split at hdd <;> omega
  have hT : turnT S.turn (lkT S i).an (lkT S j).an = -((-d) / S.turn) := by unfold turnT; rw [hdd]
  obtain ⟨r, h1, h2⟩ := forGo_map (enc := eN) (tg := .n 4) (body := sSeq (sIf (tC cGe (eB oMul (eV 3) (eB oIx (eV 0) (eC (.int 4)))) (eF fAbs (aCons (eB oSub (eB oIx (eB oIx (eB oIx (eV 0) (eC (.int 0))) (eV 2)) (eC (.int 3))) (eB oIx (eB oIx (eB oIx (eV 0) (eC (.int 0))) (eV 1)) (eC (.int 3)))) aNil)))
    sBrk
    sNil) (sAsg (.n 3) (eB oAdd (eV 3) (eC (.int 1))))) (fun _ => False)
    (fun g => ∃ k j4, g = [.im (eSky S), .im (eN i), .im (eN j), .im (eN k), j4] ∧ d ≤ (k : Int) * S.turn ∧ (k = 0 ∨ ((k : Int) - 1) * S.turn < d))
    (fun done g => ∃ j4, g = [.im (eSky S), .im (eN i), .im (eN j), .im (eN done.length), j4] ∧ (done.length = 0 ∨ ((done.length : Int) - 1) * S.turn < d)) (List.range 200) [.im (eSky S), .im (eN i), .im (eN j), .im (.int 0), .no] ⟨_, rfl, .inl rfl⟩ fun done x rest hd g ⟨j4, hg, hP⟩ => by
      subst hg
      have hlen : done.length ≤ 200 := by
        have := congrArg List.length hd
        rw [List.length_range, List.length_append] at this
        omega
      have htest : tC cGe (eB oMul (eV 3) (eB oIx (eV 0) (eC (.int 4)))) (eF fAbs (aCons (eB oSub (eB oIx (eB oIx (eB oIx (eV 0) (eC (.int 0))) (eV 2)) (eC (.int 3))) (eB oIx (eB oIx (eB oIx (eV 0) (eC (.int 0))) (eV 1)) (eC (.int 3)))) aNil)) (vA [.im (eSky S), .im (eN i), .im (eN j), .im (eN done.length), .im (eN x)]) = some (decide (d ≤ (done.length : Int) * S.turn)) := by
        rw [← hdd]
        exact ev_tC (ev_B rfl (ev_B rfl rfl rfl) (hmul _ hlen)) (ev_F (ev_cons (ev_B (ev_B (ev_B (ev_B rfl rfl rfl) rfl hl2) rfl rfl) (ev_B (ev_B (ev_B rfl rfl rfl) rfl hl) rfl rfl) rfl) rfl) rfl) rfl
      by_cases c : d ≤ (done.length : Int) * S.turn
      · rw [decide_eq_true c] at htest
        exact ⟨_, .bk _, rfl, ev_seqB (ev_ifT htest rfl), done.length, _, rfl, c, hP⟩
      · rw [decide_eq_false c] at htest
        refine ⟨_, .nx _, rfl, ev_seq (ev_ifF htest rfl) (ev_asg (ev_B rfl rfl rfl) rfl), .im (eN x), ?_, .inr ?_⟩
        · rw [List.length_append]; rfl
        · rw [List.length_append]
          show ((done.length + 1 : Nat) - 1 : Int) * S.turn < d
          have : ((done.length + 1 : Nat) : Int) - 1 = done.length := by omega
          rw [this]
          omega
  cases r with
  | nx g' =>
    have hg' : ∃ k j4, g' = [.im (eSky S), .im (eN i), .im (eN j), .im (eN k), j4] ∧ d ≤ (k : Int) * S.turn ∧ (k = 0 ∨ ((k : Int) - 1) * S.turn < d) := by
      rcases h2 with ⟨j4, hg, hP⟩ | h2
      · rw [List.length_range] at hg hP
        have h200 : (200 : Int) * 1 ≤ 200 * S.turn := Int.mul_le_mul_of_nonneg_left (by omega) (by decide)
        refine ⟨200, j4, hg, ?_, hP⟩
        show d ≤ (200 : Int) * S.turn
        omega
      · exact h2
    obtain ⟨k, j4, rfl, q1, q2⟩ := hg'
    refine ⟨_, ev_seq (ev_asg rfl rfl) (ev_seq (ev_for (xs := (List.range 200).map eN) rfl h1) (ev_ret rfl)), ?_⟩
    rw [hT, turn_fact S.turn d t0 k (by omega) q1 (q2.imp (fun e => by rw [e]; rfl) id) hd0]
  | rt e => exact h2.elim
  | bk g' => exact h2.elim
theorem turnT_nonneg {S : Sky} (ok : SkyOk S) (x y : Int) : 0 ≤ turnT S.turn x y := by
  have t0 := ok.t0
  unfold turnT
  have : (-(if y - x < 0 then -(y - x) else y - x)) / S.turn ≤ 0 := Int.ediv_nonpos_of_nonpos_of_neg (by split <;> omega) (by omega)
  omega

/-! ### the store, tick by tick -/
def drainT (ears : List Ear) (now a : Int) : Int := ears.foldl (fun a e => if e.1 ≤ now - 1 ∧ now - 1 < e.2.1 then mx0 (a - e.2.2) else a) a
def addsT (S : Sky) (names : List Nat) (now a : Int) : Int := names.foldl (fun a n => if (lkT S n).st + (lkT S n).ln = now then a + (lkT S n).sz else a) a
/-- n ticks behind s -/
def stF (S : Sky) (ears : List Ear) (names : List Nat) (a s : Int) : Nat → Int
  | 0 => a
  | n + 1 => addsT S names (s + n + 1) (drainT ears (s + n + 1) (stF S ears names a s n))
def storeT (S : Sky) (ears : List Ear) (names : List Nat) (t : Int) : Int := stF S ears names 0 (-1) (t + 1).toNat
theorem r_law_store {S : Sky} {names : List Nat} {t : Int} (hn : ∀ n ∈ names, n < S.looks.length) (h0 : 0 ≤ t) (h1 : t ≤ 1000) : s_law_store [eSky S, .list (names.map eN), .int t] = some (.int (storeT S S.ears names t)) := by
  have hL : LIM = 16777216 := rfl
  refine ev_run rfl ?_; unfold b_law_store; simp only [List.map_cons, List.map_nil, List.length_cons, List.length_nil, Nat.reduceAdd, Nat.reduceSub, List.replicate, List.cons_append, List.nil_append, Nat.zero_add, Nat.sub_self]
  refine ev_seq (ev_asg rfl rfl) (runs_go (runs_for (enc := eN) (xs := List.range (t + 1).toNat) (fun done g => ∃ j4 j5 j6 j7 j8 j9 j10 j11 j12 j13 : Sl, g = [.im (eSky S), .im (.list (names.map eN)), .im (.int t), .im (.int (stF S S.ears names 0 (-1) done.length)), j4, j5, j6, j7, j8, j9, j10, j11, j12, j13])
    (ev_iRz (ev_B rfl rfl rfl) (by omega) (by omega)) ⟨_, _, _, _, _, _, _, _, _, _, rfl⟩ (fun done now rest hd g ⟨j4, j5, j6, j7, j8, j9, j10, j11, j12, j13, hg⟩ => ?_) fun g' h => h) fun g' ⟨j4, j5, j6, j7, j8, j9, j10, j11, j12, j13, hg⟩ => ?_)
  · subst hg
    have hnow : now = done.length := by
      have e : (List.range (t + 1).toNat)[done.length]? = some now := by rw [hd, List.getElem?_append_right (Nat.le_refl _), Nat.sub_self]; rfl
      obtain ⟨q1, q2⟩ := List.getElem?_eq_some_iff.mp e
      rw [List.getElem_range] at q2
      exact q2.symm
    subst hnow
    refine ⟨_, rfl, ?_⟩
    refine runs_seq (P := fun g => ∃ j5 j6 j7 : Sl, g = [.im (eSky S), .im (.list (names.map eN)), .im (.int t), .im (.int (drainT S.ears done.length (stF S S.ears names 0 (-1) done.length))), .im (eN done.length), j5, j6, j7, j8, j9, j10, j11, j12, j13])
      (runs_for (enc := eEar) (xs := S.ears) (fun de g => ∃ j5 j6 j7 : Sl, g = [.im (eSky S), .im (.list (names.map eN)), .im (.int t), .im (.int (drainT de done.length (stF S S.ears names 0 (-1) done.length))), .im (eN done.length), j5, j6, j7, j8, j9, j10, j11, j12, j13]) (ev_iL (ev_B rfl rfl rfl)) ⟨_, _, _, rfl⟩ (fun de e rest2 hd2 g ⟨k5, k6, k7, hg⟩ => ?_) fun g h => h) fun g ⟨k5, k6, k7, hg⟩ => ?_
    · subst hg
      refine ⟨_, rfl, ?_⟩
      have hdr : drainT (de ++ [e]) done.length (stF S S.ears names 0 (-1) done.length) = if e.1 ≤ (done.length : Int) - 1 ∧ (done.length : Int) - 1 < e.2.1 then mx0 (drainT de done.length (stF S S.ears names 0 (-1) done.length) - e.2.2) else drainT de done.length (stF S S.ears names 0 (-1) done.length) := by
        unfold drainT; rw [List.foldl_append]; rfl
      rw [hdr]
      refine runs_if (k := decide (e.1 ≤ (done.length : Int) - 1) && decide ((done.length : Int) - 1 < e.2.1)) (ev_tCh rfl (ev_B rfl rfl rfl) rfl rfl rfl) (fun hk => ?_) fun hk => ?_
      · rw [← Bool.decide_and] at hk
        rw [if_pos (of_decide_eq_true hk)]
        apply runs_of
        · (repeat' (first | with_reducible exact rfl | assumption | with_reducible apply ev_B | with_reducible apply ev_U | with_reducible apply ev_cons | with_reducible apply ev_app | with_reducible apply ev_tup | with_reducible apply ev_lst | with_reducible apply ev_F | with_reducible apply ev_T | with_reducible apply ev_Or | with_reducible apply ev_tC | with_reducible apply ev_tCh | with_reducible apply ev_And | with_reducible apply ev_tOr | with_reducible apply ev_Not | with_reducible apply ev_Tr | with_reducible apply ev_some | with_reducible apply ev_cut | with_reducible apply ev_iL | with_reducible apply ev_iT | with_reducible apply ev_iR | with_reducible apply ev_iRev | with_reducible apply ev_seq | with_reducible apply ev_asg | with_reducible apply ev_asgF | with_reducible apply ev_new | with_reducible apply ev_newD | with_reducible apply ev_par | with_reducible apply ev_ret | with_reducible apply ev_retN | with_reducible apply ev_aug | with_reducible apply ev_app1 | exact rfl))
        · exact ⟨_, _, _, rfl⟩
      · rw [← Bool.decide_and] at hk
        rw [if_neg (of_decide_eq_false hk)]
        exact ⟨_, rfl, _, _, _, rfl⟩
    · subst hg
      have hst : stF S S.ears names 0 (-1) (done ++ [done.length]).length = addsT S names done.length (drainT S.ears done.length (stF S S.ears names 0 (-1) done.length)) := by
        rw [List.length_append]
        show stF S S.ears names 0 (-1) (done.length + 1) = _
        rw [stF]
        have : (-1 : Int) + (done.length : Int) + 1 = done.length := by omega
        rw [this]
      rw [hst]
      refine runs_for (enc := eN) (xs := names) (fun dn g => ∃ j5 j6 j7 j8 j9 j10 j11 j12 j13 : Sl, g = [.im (eSky S), .im (.list (names.map eN)), .im (.int t), .im (.int (addsT S dn done.length (drainT S.ears done.length (stF S S.ears names 0 (-1) done.length)))), .im (eN done.length), j5, j6, j7, j8, j9, j10, j11, j12, j13]) (ev_iL rfl) ⟨_, _, _, _, _, _, _, _, _, rfl⟩ (fun dn n rest2 hd2 g ⟨k5, k6, k7, k8, k9, k10, k11, k12, k13, hg⟩ => ?_) fun g ⟨k5, k6, k7, k8, k9, k10, k11, k12, k13, hg⟩ => ⟨_, _, _, _, _, _, _, _, _, _, hg⟩
      subst hg
      refine ⟨_, rfl, ?_⟩
      have hl := atD_map (f := eLook) (lk_at (hn n (by rw [hd2]; simp)))
      have had : addsT S (dn ++ [n]) done.length (drainT S.ears done.length (stF S S.ears names 0 (-1) done.length)) = if (lkT S n).st + (lkT S n).ln = (done.length : Int) then addsT S dn done.length (drainT S.ears done.length (stF S S.ears names 0 (-1) done.length)) + (lkT S n).sz else addsT S dn done.length (drainT S.ears done.length (stF S S.ears names 0 (-1) done.length)) := by
        unfold addsT; rw [List.foldl_append]; rfl
      rw [had]
      refine runs_seq (P := fun g => g = [.im (eSky S), .im (.list (names.map eN)), .im (.int t), .im (.int (addsT S dn done.length (drainT S.ears done.length (stF S S.ears names 0 (-1) done.length)))), .im (eN done.length), k5, k6, k7, .im (eN n), .im (.int (lkT S n).w), .im (.int (lkT S n).st), .im (.int (lkT S n).ln), .im (.int (lkT S n).an), .im (.int (lkT S n).sz)]) (runs_of (ev_asg (ev_B (ev_B rfl rfl rfl) rfl hl) rfl) rfl) fun g hg => ?_
      subst hg
      refine runs_if (k := decide ((lkT S n).st + (lkT S n).ln = (done.length : Int))) (ev_tC (ev_B rfl rfl rfl) rfl rfl) (fun hk => ?_) fun hk => ?_
      · rw [if_pos (of_decide_eq_true hk)]
        exact ⟨_, ev_asg (ev_B rfl rfl rfl) rfl, _, _, _, _, _, _, _, _, _, rfl⟩
      · rw [if_neg (of_decide_eq_false hk)]
        exact ⟨_, rfl, _, _, _, _, _, _, _, _, _, rfl⟩
  · subst hg
    rw [List.length_range]
    exact ev_ret rfl
end Sk
/-! SkPure11: the store by ticks is the store by stretches -/
namespace Sk
open PySem
theorem mx0_nn (x : Int) : 0 ≤ mx0 x := by unfold mx0; split <;> omega
theorem mx0_of {x : Int} (h : 0 ≤ x) : mx0 x = x := by unfold mx0; split <;> omega
theorem mx0_mx0 (a x y : Int) (hy : 0 ≤ y) : mx0 (mx0 (a - x) - y) = mx0 (a - (x + y)) := by unfold mx0; split <;> split <;> omega
theorem lossT_acc (s t : Int) : ∀ (es : List Ear) (c : Int), es.foldl (fun acc e => acc + lossE e s t) c = c + lossT es s t
  | [], c => by unfold lossT; simp
  | e :: es, c => by
    unfold lossT
    rw [List.foldl_cons, List.foldl_cons, lossT_acc s t es, lossT_acc s t es]
    omega
theorem lossT_cons (e : Ear) (es : List Ear) (s t : Int) : lossT (e :: es) s t = lossE e s t + lossT es s t := by
  show (e :: es).foldl (fun acc e => acc + lossE e s t) 0 = _
  rw [List.foldl_cons, lossT_acc]
  omega
theorem lossE_nn {e : Ear} (h : 0 ≤ e.2.2) (s t : Int) : 0 ≤ lossE e s t := Int.mul_nonneg h (mx0_nn _)
theorem lossT_nn {s t : Int} : ∀ {es : List Ear}, EarsOk es → 0 ≤ lossT es s t
  | [], _ => Int.le_refl 0
  | e :: es, h => by
    rw [lossT_cons]
    have := lossE_nn (h e List.mem_cons_self).1 s t
    have := lossT_nn (s := s) (t := t) (es := es) fun x hx => h x (List.mem_cons_of_mem _ hx)
    omega
theorem lossE_add (e : Ear) {s m t : Int} (h1 : s ≤ m) (h2 : m ≤ t) : lossE e s m + lossE e m t = lossE e s t := by
  unfold lossE
  rw [← Int.mul_add]
  congr 1
  unfold mx0
  (repeat' split) <;> omega
theorem lossT_add {s m t : Int} (h1 : s ≤ m) (h2 : m ≤ t) : ∀ es : List Ear, lossT es s m + lossT es m t = lossT es s t
  | [] => rfl
  | e :: es => by
    rw [lossT_cons, lossT_cons, lossT_cons, ← lossE_add e h1 h2, ← lossT_add h1 h2 es]
    omega
theorem lossE_self (e : Ear) (s : Int) : lossE e s s = 0 := by
  unfold lossE
  have : mx0 ((if e.2.1 < s then e.2.1 else s) - (if e.1 > s then e.1 else s)) = 0 := by
    unfold mx0
    (repeat' split) <;> omega
  rw [this, Int.mul_zero]
theorem lossT_self (s : Int) : ∀ es : List Ear, lossT es s s = 0
  | [] => rfl
  | e :: es => by rw [lossT_cons, lossE_self, lossT_self s es]; rfl
theorem lossE_tick (e : Ear) (now : Int) : lossE e (now - 1) now = if e.1 ≤ now - 1 ∧ now - 1 < e.2.1 then e.2.2 else 0 := by
  unfold lossE
  by_cases h : e.1 ≤ now - 1 ∧ now - 1 < e.2.1
  · have : mx0 ((if e.2.1 < now then e.2.1 else now) - (if e.1 > now - 1 then e.1 else now - 1)) = 1 := by
      unfold mx0
      (repeat' split) <;> omega
    rw [this, Int.mul_one, if_pos h]
  · have : mx0 ((if e.2.1 < now then e.2.1 else now) - (if e.1 > now - 1 then e.1 else now - 1)) = 0 := by
      unfold mx0
      (repeat' split) <;> omega
    rw [this, Int.mul_zero, if_neg h]
theorem drain_eq (now : Int) : ∀ {es : List Ear} {a : Int}, EarsOk es → 0 ≤ a → drainT es now a = mx0 (a - lossT es (now - 1) now)
  | [], a, _, h => by
    show a = mx0 (a - 0)
    rw [Int.sub_zero, mx0_of h]
  | e :: es, a, hr, h => by
    have hr2 : EarsOk es := fun x hx => hr x (List.mem_cons_of_mem _ hx)
    rw [lossT_cons, lossE_tick]
    show drainT es now (if e.1 ≤ now - 1 ∧ now - 1 < e.2.1 then mx0 (a - e.2.2) else a) = _
    split
    · rw [drain_eq now hr2 (mx0_nn _), mx0_mx0 _ _ _ (lossT_nn hr2)]
    · rw [drain_eq now hr2 h, Int.zero_add]
section
variable {S : Sky} {ears : List Ear} {names : List Nat}
theorem stF_add (a s : Int) (n : Nat) : ∀ m, stF S ears names a s (n + m) = stF S ears names (stF S ears names a s n) (s + n) m
  | 0 => rfl
  | m + 1 => by
    show addsT S names (s + ((n + m : Nat) : Int) + 1) (drainT ears (s + ((n + m : Nat) : Int) + 1) (stF S ears names a s (n + m))) = addsT S names (s + n + m + 1) (drainT ears (s + n + m + 1) (stF S ears names (stF S ears names a s n) (s + n) m))
    rw [stF_add a s n m]
    have : s + ((n + m : Nat) : Int) + 1 = s + n + m + 1 := by omega
    rw [this]
theorem stF_congr {ears' : List Ear} {names' : List Nat} (a s : Int) : ∀ n : Nat, (∀ now, s < now → now ≤ s + n → ∀ a, addsT S names' now (drainT ears' now a) = addsT S names now (drainT ears now a)) → stF S ears' names' a s n = stF S ears names a s n
  | 0, _ => rfl
  | n + 1, h => by
    show addsT S names' (s + n + 1) (drainT ears' (s + n + 1) (stF S ears' names' a s n)) = addsT S names (s + n + 1) (drainT ears (s + n + 1) (stF S ears names a s n))
    rw [stF_congr a s n fun now h1 h2 => h now h1 (by omega), h _ (by omega) (by omega)]
theorem addsT_nn (now : Int) (hz : ∀ p ∈ names, 0 ≤ (lkT S p).sz) : ∀ {a : Int}, 0 ≤ a → 0 ≤ addsT S names now a := by
  induction names with
  | nil => intro a h; exact h
  | cons p ps ih =>
    intro a h
    have := hz p List.mem_cons_self
    show 0 ≤ addsT S ps now (if (lkT S p).st + (lkT S p).ln = now then a + (lkT S p).sz else a)
    refine ih (fun q hq => hz q (List.mem_cons_of_mem _ hq)) ?_
    split <;> omega
theorem stF_nn (hr : EarsOk ears) (hz : ∀ p ∈ names, 0 ≤ (lkT S p).sz) {a s : Int} (h : 0 ≤ a) : ∀ n, 0 ≤ stF S ears names a s n
  | 0 => h
  | n + 1 => by
    refine addsT_nn _ hz ?_
    rw [drain_eq _ hr (stF_nn hr hz h n)]
    exact mx0_nn _
/-- no look ends -/
theorem stF_quiet (hr : EarsOk ears) {a s : Int} (h : 0 ≤ a) : ∀ n : Nat, (∀ now, s < now → now ≤ s + n → ∀ a, addsT S names now a = a) → stF S ears names a s n = mx0 (a - lossT ears s (s + n))
  | 0, _ => by
    show a = mx0 (a - lossT ears s (s + ((0 : Nat) : Int)))
    have : s + ((0 : Nat) : Int) = s := by omega
    rw [this, lossT_self, Int.sub_zero, mx0_of h]
  | n + 1, hq => by
    have ih := stF_quiet hr h n fun now h1 h2 => hq now h1 (by omega)
    show addsT S names (s + n + 1) (drainT ears (s + n + 1) (stF S ears names a s n)) = _
    rw [hq _ (by omega) (by omega), ih, drain_eq _ hr (mx0_nn _)]
    have e1 : s + (n : Int) + 1 - 1 = s + n := by omega
    have e2 : s + ((n + 1 : Nat) : Int) = s + n + 1 := by omega
    rw [e1, e2, mx0_mx0 _ _ _ (lossT_nn hr), lossT_add (by omega) (by omega)]
def lastAdd (S : Sky) (last : Option Nat) (now a : Int) : Int := match last with
  | none => a
  | some p => if (lkT S p).st + (lkT S p).ln = now then a + (lkT S p).sz else a
/-- between two starts: only the last look that is taken may end -/
theorem stF_step (hr : EarsOk ears) {last : Option Nat} {a since til : Int} (ha : 0 ≤ a) (hst : since ≤ til) (hz : ∀ p, last = some p → 0 ≤ (lkT S p).sz)
    (hA : ∀ now, since < now → ∀ a, addsT S names now a = lastAdd S last now a) :
    stF S ears names a since (til - since).toNat = amtT S ears a last since til := by
  have hn : since + ((til - since).toNat : Int) = til := by omega
  cases last with
  | none =>
    rw [stF_quiet hr ha _ fun now h1 h2 a => hA now h1 a, hn]
    rfl
  | some p =>
    have hzp := hz p rfl
    unfold amtT
    unfold lastAdd at hA
    dsimp only at hA ⊢
    generalize hE : (lkT S p).st + (lkT S p).ln = e at hA ⊢
    by_cases c : since < e ∧ e ≤ til
    · rw [if_pos c]
      have hsplit : (til - since).toNat = (e - since - 1).toNat + (1 + (til - e).toNat) := by omega
      rw [hsplit, stF_add, stF_add]
      have q1 : stF S ears names a since (e - since - 1).toNat = mx0 (a - lossT ears since (e - 1)) := by
        rw [stF_quiet hr ha _ fun now h1 h2 a => by
          rw [hA now h1 a]
          show (if e = now then _ else _) = _
          rw [if_neg (by omega)]]
        have : since + ((e - since - 1).toNat : Int) = e - 1 := by omega
        rw [this]
      have e1 : since + ((e - since - 1).toNat : Int) = e - 1 := by omega
      rw [q1, e1]
      have q2 : stF S ears names (mx0 (a - lossT ears since (e - 1))) (e - 1) 1 = mx0 (a - lossT ears since e) + (lkT S p).sz := by
        show addsT S names (e - 1 + ((0 : Nat) : Int) + 1) (drainT ears (e - 1 + ((0 : Nat) : Int) + 1) (mx0 (a - lossT ears since (e - 1)))) = _
        have : e - 1 + ((0 : Nat) : Int) + 1 = e := by omega
        rw [this, hA e (by omega), drain_eq _ hr (mx0_nn _), mx0_mx0 _ _ _ (lossT_nn hr), lossT_add (by omega) (by omega)]
        show (if e = e then _ else _) = _
        rw [if_pos rfl]
      rw [q2]
      have e3 : e - 1 + ((1 : Nat) : Int) = e := by omega
      rw [e3, stF_quiet hr (by have := mx0_nn (a - lossT ears since e); omega) _ fun now h1 h2 a => by
        rw [hA now (by omega) a]
        show (if e = now then _ else _) = _
        rw [if_neg (by omega)]]
      have : e + ((til - e).toNat : Int) = til := by omega
      rw [this]
    · rw [if_neg c, stF_quiet hr ha _ fun now h1 h2 a => by
        rw [hA now h1 a]
        show (if e = now then _ else _) = _
        rw [if_neg (by omega)], hn]
end
/-! ### ears that have not begun -/
theorem foldl_cond {α β : Type} (p q : α → Bool) (g : β → α → β) : ∀ (l : List α) (a : β), (∀ x ∈ l, ∀ a, (if p x = true then g a x else a) = if q x = true then g a x else a) → (l.filter p).foldl g a = (l.filter q).foldl g a
  | [], _, _ => rfl
  | x :: l, a, h => by
    have hx := h x List.mem_cons_self a
    have ih := fun a => foldl_cond p q g l a fun y hy => h y (List.mem_cons_of_mem _ hy)
    cases hp : p x <;> cases hq : q x
    · rw [List.filter_cons_of_neg (by simp [hp]), List.filter_cons_of_neg (by simp [hq]), ih]
    · rw [hp, hq, if_neg Bool.false_ne_true, if_pos rfl] at hx
      rw [List.filter_cons_of_neg (by simp [hp]), List.filter_cons_of_pos hq, List.foldl_cons, ← hx, ih]
    · rw [hp, hq, if_neg Bool.false_ne_true, if_pos rfl] at hx
      rw [List.filter_cons_of_pos hp, List.filter_cons_of_neg (by simp [hq]), List.foldl_cons, hx, ih]
    · rw [List.filter_cons_of_pos hp, List.filter_cons_of_pos hq, List.foldl_cons, List.foldl_cons, ih]
theorem drain_keep {ears : List Ear} {fl sub : List Nat} {since now a : Int} (hn : now ≤ since) (hs : ∀ k ∈ sub, since < (ears.getD k e0).1) : drainT (keepT ears (fl ++ sub)) now a = drainT (keepT ears fl) now a := by
  unfold drainT keepT
  rw [List.foldl_map, List.foldl_map]
  refine foldl_cond _ _ _ _ _ fun k _ a => ?_
  by_cases h1 : k ∈ fl
  · have e1 : (fl ++ sub).contains k = true := by simp [h1]
    have e2 : fl.contains k = true := by simp [h1]
    rw [e1, e2]
  · by_cases h2 : k ∈ sub
    · have e1 : (fl ++ sub).contains k = true := by simp [h2]
      have e2 : fl.contains k = false := by simp [h1]
      have := hs k h2
      rw [e1, e2, if_neg (by decide), if_pos (by decide), if_neg (by omega)]
    · have e1 : (fl ++ sub).contains k = false := by simp [h1, h2]
      have e2 : fl.contains k = false := by simp [h1]
      rw [e1, e2]
/-- the looks taken so far: each but the last has ended when the last begins -/
structure TakOk (S : Sky) (names : List Nat) (L : Nat) : Prop where
  len : names.length ≤ L
  lt : ∀ p ∈ names, p < L
  ends : ∀ init p, names = init ++ [p] → ∀ q ∈ init, (lkT S q).st + (lkT S q).ln ≤ (lkT S p).st
theorem lk_mem {S : Sky} {i : Nat} (h : i < S.looks.length) : lkT S i ∈ S.looks := List.mem_of_getElem? (lk_at h)
theorem adds_skip {S : Sky} {now : Int} : ∀ {names : List Nat} {a : Int}, (∀ q ∈ names, (lkT S q).st + (lkT S q).ln ≠ now) → addsT S names now a = a
  | [], _, _ => rfl
  | q :: qs, a, h => by
    show addsT S qs now (if (lkT S q).st + (lkT S q).ln = now then a + (lkT S q).sz else a) = a
    rw [if_neg (h q List.mem_cons_self)]
    exact adds_skip fun r hr => h r (List.mem_cons_of_mem _ hr)
theorem adds_snoc (S : Sky) (names : List Nat) (p : Nat) (now a : Int) : addsT S (names ++ [p]) now a = if (lkT S p).st + (lkT S p).ln = now then addsT S names now a + (lkT S p).sz else addsT S names now a := by
  unfold addsT; rw [List.foldl_append]; rfl
theorem store_step {S : Sky} (ok : SkyOk S) (w : SkyW S) {names names' : List Nat} {L : Nat} (hL : L + 1 < S.looks.length) (tk : TakOk S names L) {take : Bool} (hn : names' = if take then names ++ [L] else names)
    (hm : take = true → ∀ p, names.getLast? = some p → (lkT S p).st + (lkT S p).ln ≤ (lkT S L).st) {fl sub : List Nat} (hs : ∀ k ∈ sub, (lkT S L).st < (S.ears.getD k e0).1) :
    storeT S (keepT S.ears (fl ++ sub)) names' (lkT S (L + 1)).st = amtT S (keepT S.ears (fl ++ sub)) (storeT S (keepT S.ears fl) names (lkT S L).st) names'.getLast? (lkT S L).st (lkT S (L + 1)).st := by
  have s0 := (w.st _ (lk_mem (show L < S.looks.length by omega))).1
  have s1 := w.up L (L + 1) (by omega) hL
  have ends : ∀ q ∈ names, ∀ p, names.getLast? = some p → q ≠ p ∨ True := fun _ _ _ _ => .inr trivial
  have hr := keep_ok ok.ears (fl ++ sub)
  have hsz : ∀ p ∈ names, 0 ≤ (lkT S p).sz := fun p hp => w.sz _ (lk_mem (by have := tk.lt p hp; omega))
  have hlnL := (w.ln _ (lk_mem (show L < S.looks.length by omega))).1
  -- all but the last have ended at L's start
  have old : ∀ init p, names = init ++ [p] → ∀ q ∈ init, (lkT S q).st + (lkT S q).ln ≤ (lkT S L).st := fun init p e q hq => by
    have h1 := tk.ends init p e q hq
    have h2 := tk.lt p (by rw [e]; simp)
    have h3 := w.up p L (by omega) (by omega)
    omega
  have hadd : ∀ now, now ≤ (lkT S L).st → ∀ a, addsT S names' now a = addsT S names now a := fun now hnow a => by
    rw [hn]
    cases take with
    | false => rfl
    | true =>
      show addsT S (names ++ [L]) now a = _
      rw [adds_snoc, if_neg (by omega)]
  have hadd2 : ∀ now, (lkT S L).st < now → ∀ a, addsT S names' now a = lastAdd S names'.getLast? now a := fun now hnow a => by
    have key : ∀ init p, (∀ q ∈ init, (lkT S q).st + (lkT S q).ln ≤ (lkT S L).st) → addsT S (init ++ [p]) now a = if (lkT S p).st + (lkT S p).ln = now then a + (lkT S p).sz else a := fun init p hi => by
      rw [adds_snoc, adds_skip fun q hq => by have := hi q hq; omega]
    rw [hn]
    cases take with
    | false =>
      show addsT S names now a = lastAdd S names.getLast? now a
      rcases List.eq_nil_or_concat names with e | ⟨init, p, e⟩
      · rw [e]; rfl
      · rw [List.concat_eq_append] at e
        have := key init p (old init p e)
        rw [e, this, List.getLast?_append]
        rfl
    | true =>
      show addsT S (names ++ [L]) now a = lastAdd S (names ++ [L]).getLast? now a
      rw [key names L fun q hq => ?_, List.getLast?_append]
      · rfl
      · rcases List.eq_nil_or_concat names with e | ⟨init, p, e⟩
        · rw [e] at hq; cases hq
        · rw [List.concat_eq_append] at e
          have hlast : names.getLast? = some p := by rw [e, List.getLast?_append]; rfl
          rw [e] at hq
          rcases List.mem_append.mp hq with hq | hq
          · exact old init p e q hq
          · rw [List.mem_singleton.mp hq]
            exact hm rfl p hlast
  have hsplit : ((lkT S (L + 1)).st + 1).toNat = ((lkT S L).st + 1).toNat + ((lkT S (L + 1)).st - (lkT S L).st).toNat := by omega
  unfold storeT
  rw [hsplit, stF_add]
  have e1 : stF S (keepT S.ears (fl ++ sub)) names' 0 (-1) ((lkT S L).st + 1).toNat = stF S (keepT S.ears fl) names 0 (-1) ((lkT S L).st + 1).toNat :=
    stF_congr _ _ _ fun now h1 h2 a => by
      have h3 : now ≤ (lkT S L).st := by omega
      rw [drain_keep h3 hs, hadd now h3]
  have e2 : (-1 : Int) + (((lkT S L).st + 1).toNat : Int) = (lkT S L).st := by omega
  rw [e1, e2]
  refine stF_step hr (stF_nn (keep_ok ok.ears fl) hsz (Int.le_refl 0) _) s1 (fun p hp => ?_) hadd2
  have hpm : p ∈ names' := List.mem_of_getLast? hp
  rw [hn] at hpm
  cases take with
  | false => exact hsz p hpm
  | true =>
    have hpm : p ∈ names ++ [L] := hpm
    rcases List.mem_append.mp hpm with h | h
    · exact hsz p h
    · rw [List.mem_singleton.mp h]
      exact w.sz _ (lk_mem (by omega))
/-- nothing taken: nothing stored -/
theorem store_none {S : Sky} {ears : List Ear} (hr : EarsOk ears) {t : Int} (h : 0 ≤ t) : storeT S ears [] t = 0 := by
  unfold storeT
  rw [stF_quiet hr (Int.le_refl 0) _ fun now _ _ a => rfl]
  have := lossT_nn (s := -1) (t := -1 + ((t + 1).toNat : Int)) hr
  unfold mx0
  split <;> omega
end Sk
/-! SkPure12: the law's own states and sure worths -/
namespace Sk
open PySem
section
variable {srt : List D → List D}
theorem stF_no (S : Sky) (fl : List Nat) (ears : List Ear) (names : List Nat) (a s : Int) : ∀ n, stF (S.no fl) ears names a s n = stF S ears names a s n
  | 0 => rfl
  | n + 1 => by
    show addsT S names (s + n + 1) (drainT ears (s + n + 1) (stF (S.no fl) ears names a s n)) = _
    rw [stF_no S fl ears names a s n]
    rfl
theorem storeT_no (S : Sky) (fl : List Nat) (ears : List Ear) (names : List Nat) (t : Int) : storeT (S.no fl) ears names t = storeT S ears names t := stF_no ..
def stateT (srt : List D → List D) (S : Sky) (names : List Nat) (L : Nat) (fl : List Nat) : St :=
  ⟨L, names.getLast?, storeT S (keepT S.ears fl) names (lkT S L).st, sortI srt (names.map fun p => (lkT S p).w), fl⟩
theorem r_store_no {S : Sky} (ok : SkyOk S) (w : SkyW S) {names : List Nat} {L : Nat} (hn : ∀ n ∈ names, n < S.looks.length) (hL : L < S.looks.length) (fl : List Nat) :
    s_law_store [eSky (S.no fl), .list (names.map eN), .int (lkT S L).st] = some (.int (storeT S (keepT S.ears fl) names (lkT S L).st)) := by
  have h := w.st _ (lk_mem hL)
  have := r_law_store (S := S.no fl) (names := names) (t := (lkT S L).st) hn h.1 h.2
  rw [storeT_no] at this
  exact this
theorem lc_names {S : Sky} {names : List Nat} (hn : ∀ n ∈ names, n < S.looks.length) {src : FI} {t : Nat} {el : FE} {r : Rho} (h0 : src r = some (names.map eN)) (hl : names.length ≤ LIM) (he : ∀ n, n < S.looks.length → el (r.set t (some (eN n))) = some (.int (lkT S n).w)) :
    eLc src (.n t) tTrue el r = some (.list ((names.map fun p => (lkT S p).w).map .int)) := by
  rw [ev_lcA (enc := eN) (fun n => .int (lkT S n).w) h0 hl fun n hm => ⟨_, rfl, he n (hn n hm), rfl⟩, List.map_map]
  rfl
theorem r_law_state (hs : Srt srt) {S : Sky} (ok : SkyOk S) (w : SkyW S) {names : List Nat} {L : Nat} (tk : TakOk S names L) (hL : L < S.looks.length) (fl : List Nat) : s_law_state srt [eSky S, .list (names.map eN), eN L, eNs fl] = some (eSt (stateT srt S names L fl)) := by
  have hLim : LIM = 16777216 := rfl
  have h5 := ok.looksN
  have hlen := tk.len
  have hn : ∀ n ∈ names, n < S.looks.length := fun n h => by have := tk.lt n h; omega
  have hcat : oCatL (.list [.int (-1)]) (.list (names.map eN)) = some (.list ([.int (-1)] ++ names.map eN)) := if_pos (by rw [List.length_map]; show 1 + names.length ≤ _; omega)
  have hsort : fSorted srt [.list ((names.map fun p => (lkT S p).w).map .int)] = some (.list ((sortI srt (names.map fun p => (lkT S p).w)).map .int)) := by
    rw [← (hs.sortI _).1]
    refine if_pos ?_
    unfold sortable
    rw [List.all_eq_true.mpr (fun d hd => by obtain ⟨n, _, rfl⟩ := List.mem_map.mp hd; rfl : ∀ d ∈ (names.map fun p => (lkT S p).w).map PyData.int, isInt d = true)]
    rfl
  have hw := r_law_without (S := S) (fl := fl) (by have := ok.earsN; omega)
  have hst := r_store_no ok w hn hL fl
  have hlk := atD_map (f := eLook) (lk_at hL)
  have hlast : oIx (.list ([.int (-1)] ++ names.map eN)) (.int (-1)) = some (.int (eLast names.getLast?)) := by
    rcases List.eq_nil_or_concat names with e | ⟨init, p, e⟩
    · rw [e]; rfl
    · rw [List.concat_eq_append] at e
      rw [e, List.map_append, ← List.append_assoc, List.getLast?_append]
      exact atD_last
  refine ev_run rfl ?_; unfold b_law_state; simp only [List.map_cons, List.map_nil, List.length_cons, List.length_nil, Nat.reduceAdd, Nat.reduceSub, List.replicate, List.cons_append, List.nil_append, Nat.zero_add, Nat.sub_self]
  refine ev_seq (ev_asg (ev_B (ev_lst (ev_cons (ev_U rfl rfl) rfl)) rfl hcat) rfl) (ev_seq (ev_asg (ev_F (ev_cons (ev_F (ev_cons (lc_names hn (ev_iL rfl) (by omega) fun n h => ?_) rfl) hsort) rfl) rfl) rfl) (ev_ret (ev_tup (ev_cons rfl (ev_cons (ev_B rfl (ev_U rfl rfl) hlast) (ev_cons (ev_F (ev_cons (ev_F (ev_cons rfl (ev_cons rfl rfl)) hw) (ev_cons rfl (ev_cons (ev_B (ev_B (ev_B rfl rfl rfl) rfl hlk) rfl rfl) rfl))) hst) (ev_cons rfl (ev_cons rfl rfl))))))))
  exact ev_B (ev_B (ev_B rfl rfl rfl) rfl (atD_map (f := eLook) (lk_at h))) rfl rfl
theorem state_ok (hs : Srt srt) {S : Sky} {most : Int} {names : List Nat} {L : Nat} (tk : TakOk S names L) (hL : L < S.looks.length) {fl : List Nat} (hf : (fl.length : Int) ≤ most) : StOk S most (stateT srt S names L fl) :=
  ⟨hL, fun p hp => by have := tk.lt p (List.mem_of_getLast? hp); omega, hf, by
    show (sortI srt _).length ≤ L
    rw [(hs.sortI _).2.length_eq, List.length_map]
    exact tk.len⟩
theorem r_law_may (hs : Srt srt) {S : Sky} (ok : SkyOk S) (w : SkyW S) {names : List Nat} {L : Nat} (tk : TakOk S names L) (hL : L < S.looks.length) (fl : List Nat) : s_law_may [eSky S, .list (names.map eN), eN L, eNs fl] = some (.bool (mayT S (stateT srt S names L fl))) := by
  have hLim : LIM = 16777216 := rfl
  have h5 := ok.looksN
  have hlen := tk.len
  have hn : ∀ n ∈ names, n < S.looks.length := fun n h => by have := tk.lt n h; omega
  have hw := r_law_without (S := S) (fl := fl) (by have := ok.earsN; omega)
  have hst := r_store_no ok w hn hL fl
  have hlk := atD_map (f := eLook) (lk_at hL)
  have hcon : (names.map fun p => (lkT S p).w).contains (lkT S L).w = (sortI srt (names.map fun p => (lkT S p).w)).contains (lkT S L).w := by
    have hp := (hs.sortI (names.map fun p => (lkT S p).w)).2
    rw [Bool.eq_iff_iff, List.contains_iff_mem, List.contains_iff_mem]
    exact hp.mem_iff.symm
  have hin := cIn_intL (lkT S L).w (names.map fun p => (lkT S p).w)
  rw [hcon] at hin
  refine ev_run rfl ?_; unfold b_law_may; simp only [List.map_cons, List.map_nil, List.length_cons, List.length_nil, Nat.reduceAdd, Nat.reduceSub, List.replicate, List.cons_append, List.nil_append, Nat.zero_add, Nat.sub_self]
  refine ev_seq (ev_asg (ev_B (ev_B rfl rfl rfl) rfl hlk) rfl) ?_
  have ht1 : tC cIn (eV 4) (eLc (iL (eV 1)) (.n 10) tTrue (eB oIx (eB oIx (eB oIx (eV 0) (eC (.int 0))) (eV 10)) (eC (.int 0)))) (vA [.im (eSky S), .im (.list (names.map eN)), .im (eN L), .im (eNs fl), .im (.int (lkT S L).w), .im (.int (lkT S L).st), .im (.int (lkT S L).ln), .im (.int (lkT S L).an), .im (.int (lkT S L).sz), .no, .no]) = some ((sortI srt (names.map fun p => (lkT S p).w)).contains (lkT S L).w) :=
    ev_tC rfl (lc_names hn (ev_iL rfl) (by omega) fun n h => ev_B (ev_B (ev_B rfl rfl rfl) rfl (atD_map (f := eLook) (lk_at h))) rfl rfl) hin
  have hret : ∀ j9 : Sl, sRet (eT (tC cLe (eB oAdd (eF s_law_store (aCons (eF s_law_without (aCons (eV 0) (aCons (eV 3) aNil))) (aCons (eV 1) (aCons (eV 5) aNil)))) (eV 8)) (eB oIx (eV 0) (eC (.int 3))))) [.im (eSky S), .im (.list (names.map eN)), .im (eN L), .im (eNs fl), .im (.int (lkT S L).w), .im (.int (lkT S L).st), .im (.int (lkT S L).ln), .im (.int (lkT S L).an), .im (.int (lkT S L).sz), j9, .no] = some (.rt (.bool (decide (storeT S (keepT S.ears fl) names (lkT S L).st + (lkT S L).sz ≤ S.cap)))) := fun j9 =>
    ev_ret (ev_T (ev_tC (ev_B (ev_F (ev_cons (ev_F (ev_cons rfl (ev_cons rfl rfl)) hw) (ev_cons rfl (ev_cons rfl rfl))) hst) rfl rfl) (ev_B rfl rfl rfl) rfl))
  have hneg : decide (storeT S (keepT S.ears fl) names (lkT S L).st + (lkT S L).sz ≤ S.cap) = !decide (S.cap < storeT S (keepT S.ears fl) names (lkT S L).st + (lkT S L).sz) := by
    by_cases c : S.cap < storeT S (keepT S.ears fl) names (lkT S L).st + (lkT S L).sz
    · rw [decide_eq_true c, decide_eq_false (by omega)]; rfl
    · rw [decide_eq_false c, decide_eq_true (by omega)]; rfl
  unfold mayT
  show _ = some (Out.rt (.bool (!((sortI srt (names.map fun p => (lkT S p).w)).contains (lkT S L).w || decide (S.cap < storeT S (keepT S.ears fl) names (lkT S L).st + (lkT S L).sz)) && (match names.getLast? with | none => true | some p => decide ((lkT S p).st + (lkT S p).ln + turnT S.turn (lkT S p).an (lkT S L).an ≤ (lkT S L).st)))))
  cases hc : (sortI srt (names.map fun p => (lkT S p).w)).contains (lkT S L).w with
  | true =>
    rw [hc] at ht1
    exact ev_seqR (ev_ifT ht1 (ev_ret rfl))
  | false =>
    rw [hc] at ht1
    refine ev_seq (ev_ifF ht1 rfl) ?_
    rw [Bool.false_or, ← hneg]
    rcases List.eq_nil_or_concat names with e | ⟨init, p, e⟩
    · have hg : cGt (eN names.length) (.int 0) = some false := by rw [e]; rfl
      refine ev_seq (ev_ifF (ev_tC (ev_F (ev_cons rfl rfl) (fLen_map eN names)) rfl hg) rfl) ?_
      have : names.getLast? = none := by rw [e]; rfl
      rw [this, Bool.and_true]
      exact hret _
    · rw [List.concat_eq_append] at e
      have hg : cGt (eN names.length) (.int 0) = some true := congrArg some (decide_eq_true (by rw [e, List.length_append]; show (0 : Int) < ((init.length + 1 : Nat) : Int); omega))
      have hla : names.getLast? = some p := by rw [e, List.getLast?_append]; rfl
      have hp : p < S.looks.length := hn p (by rw [e]; simp)
      have hlp := atD_map (f := eLook) (lk_at hp)
      have htn := r_law_turn ok w hp hL
      have hix : oIx (.list (names.map eN)) (.int (-1)) = some (eN p) := by rw [e, List.map_append]; exact atD_last
      rw [hla]
      have ht2 : tC cLt (eV 5) (eB oAdd (eB oAdd (eB oIx (eV 9) (eC (.int 1))) (eB oIx (eV 9) (eC (.int 2)))) (eF s_law_turn (aCons (eV 0) (aCons (eB oIx (eV 1) (eU oNeg (eC (.int 1)))) (aCons (eV 2) aNil))))) (vA [.im (eSky S), .im (.list (names.map eN)), .im (eN L), .im (eNs fl), .im (.int (lkT S L).w), .im (.int (lkT S L).st), .im (.int (lkT S L).ln), .im (.int (lkT S L).an), .im (.int (lkT S L).sz), .im (eLook (lkT S p)), .no]) = some (decide ((lkT S L).st < (lkT S p).st + (lkT S p).ln + turnT S.turn (lkT S p).an (lkT S L).an)) :=
        ev_tC rfl (ev_B (ev_B (ev_B rfl rfl rfl) (ev_B rfl rfl rfl) rfl) (ev_F (ev_cons rfl (ev_cons (ev_B rfl (ev_U rfl rfl) hix) (ev_cons rfl rfl))) htn) rfl) rfl
      have hb : sAsg (.n 9) (eB oIx (eB oIx (eV 0) (eC (.int 0))) (eB oIx (eV 1) (eU oNeg (eC (.int 1))))) [.im (eSky S), .im (.list (names.map eN)), .im (eN L), .im (eNs fl), .im (.int (lkT S L).w), .im (.int (lkT S L).st), .im (.int (lkT S L).ln), .im (.int (lkT S L).an), .im (.int (lkT S L).sz), .no, .no] = some (.nx [.im (eSky S), .im (.list (names.map eN)), .im (eN L), .im (eNs fl), .im (.int (lkT S L).w), .im (.int (lkT S L).st), .im (.int (lkT S L).ln), .im (.int (lkT S L).an), .im (.int (lkT S L).sz), .im (eLook (lkT S p)), .no]) :=
        ev_asg (ev_B (ev_B rfl rfl rfl) (ev_B rfl (ev_U rfl rfl) hix) hlp) rfl
      by_cases c : (lkT S L).st < (lkT S p).st + (lkT S p).ln + turnT S.turn (lkT S p).an (lkT S L).an
      · rw [decide_eq_true c] at ht2
        have : decide ((lkT S p).st + (lkT S p).ln + turnT S.turn (lkT S p).an (lkT S L).an ≤ (lkT S L).st) = false := decide_eq_false (by omega)
        show _ = some (Out.rt (.bool (_ && decide _)))
        rw [this, Bool.and_false]
        exact ev_seqR (ev_ifT (ev_tC (ev_F (ev_cons rfl rfl) (fLen_map eN names)) rfl hg) (ev_seq hb (ev_ifT ht2 (ev_ret rfl))))
      · rw [decide_eq_false c] at ht2
        have : decide ((lkT S p).st + (lkT S p).ln + turnT S.turn (lkT S p).an (lkT S L).an ≤ (lkT S L).st) = true := decide_eq_true (by omega)
        show _ = some (Out.rt (.bool (_ && decide _)))
        rw [this, Bool.and_true]
        exact ev_seq (ev_ifT (ev_tC (ev_F (ev_cons rfl rfl) (fLen_map eN names)) rfl hg) (ev_seq hb (ev_ifF ht2 rfl))) (hret _)
end
end Sk
/-! SkPure13: the law's own sure worth is the value by state -/
namespace Sk
open PySem
section
variable {srt : List D → List D}
def begP (ears : List Ear) (since til : Int) (n : Nat) : Bool := decide (since < (ears.getD n e0).1) && decide ((ears.getD n e0).1 ≤ til)
theorem filter_pos {q : Nat → Bool} {l : List Nat} {n : Nat} (h : q n = true) : (l ++ [n]).filter q = l.filter q ++ [n] := by rw [List.filter_append, List.filter_cons_of_pos h, List.filter_nil]
theorem filter_neg {q : Nat → Bool} {l : List Nat} {n : Nat} (h : q n = false) : (l ++ [n]).filter q = l.filter q := by rw [List.filter_append, List.filter_cons_of_neg (by rw [h]; exact Bool.false_ne_true), List.filter_nil, List.append_nil]
def sinceT (S : Sky) (L : Nat) : Int := if L = 0 then -1 else (lkT S (L - 1)).st
theorem r_law_fates {S : Sky} (ok : SkyOk S) {L : Nat} (hL : L < S.looks.length) {fl : List Nat} {most : Int} (hf : fl.length ≤ 100) : s_law_fates [eSky S, eN L, eNs fl, .int most] = some (.list ((waysT (begT S.ears (sinceT S L) (lkT S L).st) fl most).map eNs)) := by
  have hLim : LIM = 16777216 := rfl
  have h3 := ok.earsN
  have hlk := atD_map (f := eLook) (lk_at hL)
  have hlen := fLen_map eEar S.ears
  refine ev_run rfl ?_; unfold b_law_fates; simp only [List.map_cons, List.map_nil, List.length_cons, List.length_nil, Nat.reduceAdd, Nat.reduceSub, List.replicate, List.cons_append, List.nil_append, Nat.zero_add, Nat.sub_self]
  have hif : sIf (tC cGt (eV 1) (eC (.int 0))) (sAsg (.n 4) (eB oIx (eB oIx (eB oIx (eV 0) (eC (.int 0))) (eB oSub (eV 1) (eC (.int 1)))) (eC (.int 1)))) sNil [.im (eSky S), .im (eN L), .im (eNs fl), .im (.int most), .im (.int (-1)), .no, .no, .no] = some (.nx [.im (eSky S), .im (eN L), .im (eNs fl), .im (.int most), .im (.int (sinceT S L)), .no, .no, .no]) := by
    unfold sinceT
    by_cases h0 : L = 0
    · rw [if_pos h0]
      exact ev_ifF (ev_tC rfl rfl (congrArg some (decide_eq_false (by show ¬ (0 : Int) < (L : Int); omega)))) rfl
    · rw [if_neg h0]
      have hlk2 : oIx (.list (S.looks.map eLook)) (.int ((L : Int) - 1)) = some (eLook (lkT S (L - 1))) := atD_int (j := L - 1) (by omega) (by rw [List.getElem?_map, lk_at (by omega)]; rfl)
      exact ev_ifT (ev_tC rfl rfl (congrArg some (decide_eq_true (by show (0 : Int) < (L : Int); omega)))) (ev_asg (ev_B (ev_B (ev_B rfl rfl rfl) (ev_B rfl rfl rfl) hlk2) rfl rfl) rfl)
  have hb : ∀ done rest : List Nat, List.range S.ears.length = done ++ rest → ∀ q : Nat → Bool, (waysA (done.filter q) fl).length ≤ 8 := fun done rest e q => by
    rw [waysA_len]
    have e1 := congrArg List.length e
    rw [List.length_range, List.length_append] at e1
    have e2 := List.length_filter_le q done
    exact Nat.le_trans (Nat.pow_le_pow_right (by decide) (show (done.filter q).length ≤ 3 by omega)) (by decide)
  refine ev_seq (ev_asg (ev_U rfl rfl) rfl) (ev_seq hif (ev_seq (ev_asg (ev_lst (ev_cons rfl rfl)) rfl) (runs_go (runs_for (enc := eN) (xs := List.range S.ears.length) (fun done g => ∃ j6 : Sl, g = [.im (eSky S), .im (eN L), .im (eNs fl), .im (.int most), .im (.int (sinceT S L)), .im (.list ((waysA (done.filter (begP S.ears (sinceT S L) (lkT S L).st)) fl).map eNs)), j6, .no])
    (ev_iR (ev_F (ev_cons (ev_B rfl rfl rfl) rfl) hlen) (by omega)) ⟨_, rfl⟩ (fun done n rest hd g ⟨j6, hg⟩ => ?_) fun g h => h) fun g ⟨j6, hg⟩ => ?_)))
  · subst hg
    refine ⟨_, rfl, ?_⟩
    have hn : n < S.ears.length := List.mem_range.mp (by rw [hd]; simp)
    have hle := atD_map (f := eEar) (getD_of e0 hn)
    have b1 := hb done (n :: rest) hd (begP S.ears (sinceT S L) (lkT S L).st)
    have htest := ev_tCh (a := eV 4) (b := eB oIx (eB oIx (eB oIx (eV 0) (eC (.int 2))) (eV 6)) (eC (.int 0))) (c := eB oIx (eB oIx (eB oIx (eV 0) (eC (.int 0))) (eV 1)) (eC (.int 1))) (g := cLt) (g' := cLe) (k := decide (sinceT S L < (S.ears.getD n e0).1)) (l := decide ((S.ears.getD n e0).1 ≤ (lkT S L).st))
      (r := vA [.im (eSky S), .im (eN L), .im (eNs fl), .im (.int most), .im (.int (sinceT S L)), .im (.list ((waysA (done.filter (begP S.ears (sinceT S L) (lkT S L).st)) fl).map eNs)), .im (eN n), .no]) rfl (ev_B (ev_B (ev_B rfl rfl rfl) rfl hle) rfl rfl) rfl (ev_B (ev_B (ev_B rfl rfl rfl) rfl hlk) rfl rfl) rfl
    refine runs_if htest (fun hk => ?_) fun hk => ?_
    · have hlc : eLc (iL (eV 5)) (.n 7) tTrue (eB oCatT (eV 7) (eTup (aCons (eV 6) aNil))) (vI [.im (eSky S), .im (eN L), .im (eNs fl), .im (.int most), .im (.int (sinceT S L)), .im (.list ((waysA (done.filter (begP S.ears (sinceT S L) (lkT S L).st)) fl).map eNs)), .im (eN n), .no])
          = some (.list ((waysA (done.filter (begP S.ears (sinceT S L) (lkT S L).st)) fl).map fun w => eNs (w ++ [n]))) :=
        ev_lcA (enc := eNs) (fun w => eNs (w ++ [n])) (ev_iL rfl) (by omega) fun w hw => by
          obtain ⟨sub, hs, rfl⟩ := waysA_mem hw
          have h1 := hs.length_le
          have h2 := List.length_filter_le (begP S.ears (sinceT S L) (lkT S L).st) done
          have e1 := congrArg List.length hd
          rw [List.length_range, List.length_append] at e1
          refine ⟨_, rfl, ev_B rfl (ev_tup (ev_cons rfl rfl)) ?_, rfl⟩
          show (if _ then _ else _) = _
          rw [if_pos (by simp only [List.length_map, List.length_append, List.length_cons, List.length_nil]; omega)]
          show some (PyData.tuple (List.map eN (fl ++ sub) ++ [eN n])) = _
          rw [show eNs (fl ++ sub ++ [n]) = PyData.tuple (List.map eN (fl ++ sub ++ [n])) from rfl, List.map_append (l₁ := fl ++ sub)]
          rfl
      have hcat : oCatL (.list ((waysA (done.filter (begP S.ears (sinceT S L) (lkT S L).st)) fl).map eNs)) (.list ((waysA (done.filter (begP S.ears (sinceT S L) (lkT S L).st)) fl).map fun w => eNs (w ++ [n])))
          = some (.list ((waysA (done.filter (begP S.ears (sinceT S L) (lkT S L).st)) fl).map eNs ++ (waysA (done.filter (begP S.ears (sinceT S L) (lkT S L).st)) fl).map fun w => eNs (w ++ [n]))) := if_pos (by rw [List.length_map, List.length_map]; omega)
      rw [filter_pos (q := begP S.ears (sinceT S L) (lkT S L).st) hk, waysA_snoc]
      unfold growT
      rw [List.map_append, List.map_map]
      exact ⟨_, ev_asg (ev_B rfl hlc hcat) rfl, _, rfl⟩
    · rw [filter_neg (q := begP S.ears (sinceT S L) (lkT S L).st) hk]
      exact ⟨_, rfl, _, rfl⟩
  · subst hg
    have b1 := hb (List.range S.ears.length) [] (by simp) (begP S.ears (sinceT S L) (lkT S L).st)
    have b2 : (waysA (begT S.ears (sinceT S L) (lkT S L).st) fl).length ≤ LIM := by
      have b3 : (waysA (begT S.ears (sinceT S L) (lkT S L).st) fl).length ≤ 8 := b1
      omega
    exact ev_ret (ev_lc (enc := eNs) (fun w => decide ((w.length : Int) ≤ most)) eNs (ev_iL rfl) b2 fun w hw => ⟨_, rfl, ev_tC (ev_F (ev_cons rfl rfl) (fLen_mapT eN w)) rfl rfl, fun _ => ⟨rfl, rfl⟩⟩)

/-! ### steps of the taken -/
def takN (names : List Nat) (L : Nat) (take : Bool) : List Nat := if take then names ++ [L] else names
theorem may_ends (hs : Srt srt) {S : Sky} (ok : SkyOk S) {names : List Nat} {L : Nat} {fl : List Nat} (h : mayT S (stateT srt S names L fl) = true) : ∀ p, names.getLast? = some p → (lkT S p).st + (lkT S p).ln ≤ (lkT S L).st := fun p hp => by
  unfold mayT at h
  rw [Bool.and_eq_true] at h
  have h2 := h.2
  have h2 : (match names.getLast? with | none => true | some p => decide ((lkT S p).st + (lkT S p).ln + turnT S.turn (lkT S p).an (lkT S L).an ≤ (lkT S L).st)) = true := h2
  rw [hp] at h2
  have h3 := of_decide_eq_true h2
  have := turnT_nonneg ok (lkT S p).an (lkT S L).an
  omega
theorem tak_step {S : Sky} (ok : SkyOk S) (w : SkyW S) {names : List Nat} {L : Nat} (tk : TakOk S names L) (hL : L < S.looks.length) {take : Bool} (hm : take = true → ∀ p, names.getLast? = some p → (lkT S p).st + (lkT S p).ln ≤ (lkT S L).st) : TakOk S (takN names L take) (L + 1) := by
  cases take with
  | false => exact ⟨Nat.le_succ_of_le tk.len, fun p hp => Nat.lt_succ_of_lt (tk.lt p hp), tk.ends⟩
  | true =>
    refine ⟨by show (names ++ [L]).length ≤ _; rw [List.length_append]; exact Nat.succ_le_succ tk.len, fun p hp => ?_, fun init p e q hq => ?_⟩
    · rcases List.mem_append.mp hp with h | h
      · exact Nat.lt_succ_of_lt (tk.lt p h)
      · rw [List.mem_singleton.mp h]; exact Nat.lt_succ_self L
    · have e : names ++ [L] = init ++ [p] := e
      obtain ⟨rfl, e2⟩ := List.append_inj' e rfl
      cases e2
      rcases List.eq_nil_or_concat names with e | ⟨init, p, e⟩
      · rw [e] at hq; cases hq
      · rw [List.concat_eq_append] at e
        have hlast : names.getLast? = some p := by rw [e, List.getLast?_append]; rfl
        have h1 := hm rfl p hlast
        have hpm := tk.lt p (by rw [e]; simp)
        have h2 := w.up p L (by omega) hL
        rw [e] at hq
        rcases List.mem_append.mp hq with h | h
        · have := tk.ends init p e q h
          omega
        · rw [List.mem_singleton.mp h]; exact h1
theorem mk_state (hs : Srt srt) {S : Sky} (ok : SkyOk S) (w : SkyW S) {names : List Nat} {L : Nat} (tk : TakOk S names L) (hL : L + 1 < S.looks.length) {take : Bool} {fl sub : List Nat} (hm : take = true → ∀ p, names.getLast? = some p → (lkT S p).st + (lkT S p).ln ≤ (lkT S L).st) (hsub : sub.Sublist (begT S.ears (lkT S L).st (lkT S (L + 1)).st)) :
    mkT srt S (stateT srt S names L fl) take (fl ++ sub) = stateT srt S (takN names L take) (L + 1) (fl ++ sub) := by
  have hst := store_step ok w hL tk (take := take) (names' := takN names L take) rfl hm (fl := fl) (sub := sub) fun k hk => by
    have := hsub.subset hk
    have := (List.mem_filter.mp this).2
    rw [Bool.and_eq_true] at this
    exact of_decide_eq_true this.1
  have hlast : lastT (stateT srt S names L fl) take = (takN names L take).getLast? := by
    cases take with
    | false => rfl
    | true =>
      show some L = (names ++ [L]).getLast?
      rw [List.getLast?_append]; rfl
  have hwi : wiT srt S (stateT srt S names L fl) take = sortI srt ((takN names L take).map fun p => (lkT S p).w) := by
    cases take with
    | false => rfl
    | true =>
      show sortI srt (sortI srt (names.map fun p => (lkT S p).w) ++ [(lkT S L).w]) = sortI srt ((names ++ [L]).map fun p => (lkT S p).w)
      rw [List.map_append]
      exact hs.sortI_perm ((hs.sortI _).2.append_right _)
  unfold mkT stateT
  unfold stateT at hlast hwi hst
  rw [hlast, hwi, hst]
/-- the value behind -/
def worstT (srt : List D → List D) (S : Sky) (most : Int) (names : List Nat) (L : Nat) (fl : List Nat) : Int :=
  if L + 1 = S.looks.length then 0 else minD ((waysT (begT S.ears (lkT S L).st (lkT S (L + 1)).st) fl most).map fun f => vS srt S most (stateT srt S names (L + 1) f))
theorem beh_state (hs : Srt srt) {S : Sky} (ok : SkyOk S) (w : SkyW S) {most : Int} {names : List Nat} {L : Nat} (tk : TakOk S names L) (hL : L < S.looks.length) {take : Bool} {fl : List Nat} (hm : take = true → ∀ p, names.getLast? = some p → (lkT S p).st + (lkT S p).ln ≤ (lkT S L).st) :
    behT srt S most (stateT srt S names L fl) take = if L + 1 = S.looks.length then [] else (waysT (begT S.ears (lkT S L).st (lkT S (L + 1)).st) fl most).map fun f => stateT srt S (takN names L take) (L + 1) f := by
  unfold behT
  show (if L + 1 = S.looks.length then [] else (fatesT S most (stateT srt S names L fl)).map _) = _
  by_cases h : L + 1 = S.looks.length
  · rw [if_pos h, if_pos h]
  · rw [if_neg h, if_neg h]
    refine List.map_congr_left fun f hf => ?_
    obtain ⟨⟨sub, h1, rfl⟩, _⟩ := waysT_mem.mp hf
    exact mk_state hs ok w tk (by omega) hm h1
theorem sb_state (hs : Srt srt) {S : Sky} (ok : SkyOk S) (w : SkyW S) {most : Int} {names : List Nat} {L : Nat} (tk : TakOk S names L) (hL : L < S.looks.length) {take : Bool} {fl : List Nat} (hm : take = true → ∀ p, names.getLast? = some p → (lkT S p).st + (lkT S p).ln ≤ (lkT S L).st) :
    sbT srt S most (vS srt S most) (stateT srt S names L fl) take = gainT S (stateT srt S names L fl) take + worstT srt S most (takN names L take) L fl := by
  unfold sbT worstT
  rw [beh_state hs ok w tk hL hm]
  by_cases h : L + 1 = S.looks.length
  · rw [if_pos h, if_pos h]; rfl
  · rw [if_neg h, if_neg h, List.map_map]; rfl
theorem begT_sinceT (S : Sky) (L : Nat) : sinceT S (L + 1) = (lkT S L).st := by unfold sinceT; rw [if_neg (by omega)]; rfl
/-- the recursion, to a depth -/
theorem r_pair (hs : Srt srt) {S : Sky} (ok : SkyOk S) (w : SkyW S) {most : Int} (hm3 : most ≤ 3) : ∀ (k n : Nat) (names : List Nat) (L : Nat) (fl : List Nat), TakOk S names L → L + k = S.looks.length → 0 < k → 2 * k ≤ n → (fl.length : Int) ≤ most →
    s_law_sure n [eSky S, .list (names.map eN), eN L, eNs fl, .int most] = some (.int (vS srt S most (stateT srt S names L fl)))
  | 0, _, _, _, _, _, _, h, _, _ => absurd h (Nat.lt_irrefl _)
  | k + 1, n, names, L, fl, tk, hk, _, hn, hf => by
    have hLim : LIM = 16777216 := rfl
    have h5 := ok.looksN
    have hL : L < S.looks.length := by omega
    obtain ⟨n, rfl⟩ : ∃ m, n = m + 2 := ⟨n - 2, by omega⟩
    have hlen := fLen_map eLook S.looks
    -- the worst behind
    have worst : ∀ names', TakOk S names' (L + 1) → s_law_worst (n + 1) [eSky S, .list (names'.map eN), eN L, eNs fl, .int most] = some (.int (worstT srt S most names' L fl)) := by
      intro names' tk'
      unfold worstT
      by_cases h : L + 1 = S.looks.length
      · rw [if_pos h]
        have he : cEq (.int ((L : Int) + 1)) (eN S.looks.length) = some true := congrArg some (decide_eq_true (by omega))
        rw [show s_law_worst (n + 1) = runDef 5 6 (b_law_worst (s_pair n).2) from rfl]
        refine ev_run rfl ?_; unfold b_law_worst; simp only [List.map_cons, List.map_nil, List.length_cons, List.length_nil, Nat.reduceAdd, Nat.reduceSub, List.replicate, List.cons_append, List.nil_append, Nat.zero_add, Nat.sub_self]
        exact ev_seqR (ev_ifT (ev_tC (ev_B rfl rfl rfl) (ev_F (ev_cons (ev_B rfl rfl rfl) rfl) hlen) he) (ev_ret rfl))
      · rw [if_neg h]
        have he : cEq (.int ((L : Int) + 1)) (eN S.looks.length) = some false := congrArg some (decide_eq_false (by omega))
        have hfa := r_law_fates (L := L + 1) (most := most) ok (by omega) (fl := fl) (by omega)
        rw [begT_sinceT] at hfa
        have hfl := ways_len (names := begT S.ears (lkT S L).st (lkT S (L + 1)).st) (failed := fl) (most := most) (by have := begT_le S.ears (lkT S L).st (lkT S (L + 1)).st; have := ok.earsN; omega)
        have hne : ((waysT (begT S.ears (lkT S L).st (lkT S (L + 1)).st) fl most).map fun f => vS srt S most (stateT srt S names' (L + 1) f)) ≠ [] := by
          intro e
          rw [List.map_eq_nil_iff] at e
          have : fl ∈ waysT (begT S.ears (lkT S L).st (lkT S (L + 1)).st) fl most := waysT_mem.mpr ⟨⟨[], List.nil_sublist _, by simp⟩, hf⟩
          rw [e] at this
          cases this
        have hmin := fMin_map hne
        rw [show s_law_worst (n + 1) = runDef 5 6 (b_law_worst (s_pair n).2) from rfl]
        refine ev_run rfl ?_; unfold b_law_worst; simp only [List.map_cons, List.map_nil, List.length_cons, List.length_nil, Nat.reduceAdd, Nat.reduceSub, List.replicate, List.cons_append, List.nil_append, Nat.zero_add, Nat.sub_self]
        refine ev_seq (ev_ifF (ev_tC (ev_B rfl rfl rfl) (ev_F (ev_cons (ev_B rfl rfl rfl) rfl) hlen) he) rfl) (ev_ret (ev_F (ev_cons (x := .list (((waysT (begT S.ears (lkT S L).st (lkT S (L + 1)).st) fl most).map fun f => vS srt S most (stateT srt S names' (L + 1) f)).map .int)) ?_ rfl) hmin))
        have hlc := ev_lcA (enc := eNs) (src := iL (eF s_law_fates (aCons (eV 0) (aCons (eB oAdd (eV 2) (eC (.int 1))) (aCons (eV 3) (aCons (eV 4) aNil)))))) (tg := .n 5) (el := eF (s_pair n).2 (aCons (eV 0) (aCons (eV 1) (aCons (eB oAdd (eV 2) (eC (.int 1))) (aCons (eV 5) (aCons (eV 4) aNil))))))
          (r := vA [.im (eSky S), .im (.list (names'.map eN)), .im (eN L), .im (eNs fl), .im (.int most), .no]) (fun f => .int (vS srt S most (stateT srt S names' (L + 1) f))) (xs := waysT (begT S.ears (lkT S L).st (lkT S (L + 1)).st) fl most)
          (ev_iL (ev_F (ev_cons rfl (ev_cons (ev_B rfl rfl rfl) (ev_cons rfl (ev_cons rfl rfl)))) hfa)) (by omega) fun f hfm => by
            have hfo := (waysT_mem.mp hfm).2
            have ih := r_pair hs ok w hm3 k n names' (L + 1) f tk' (by omega) (by omega) (by omega) hfo
            exact ⟨_, rfl, ev_F (ev_cons rfl (ev_cons rfl (ev_cons (ev_B rfl rfl rfl) (ev_cons rfl (ev_cons rfl rfl))))) ih, rfl⟩
        rw [List.map_map]
        exact hlc
    have hso := state_ok hs tk hL hf
    have hmay := r_law_may hs ok w tk hL fl
    have hw1 := worst names (tak_step ok w tk hL (take := false) (fun z => by cases z))
    have hlk := atD_map (f := eLook) (lk_at hL)
    have hwo := worth_at ok hL
    have sb1 := sb_state hs ok w (most := most) tk hL (take := false) (fl := fl) (fun z => by cases z)
    rw [show s_law_sure (n + 2) = runDef 5 6 (b_law_sure (s_pair (n + 1)).1) from rfl]
    refine ev_run rfl ?_; unfold b_law_sure; simp only [List.map_cons, List.map_nil, List.length_cons, List.length_nil, Nat.reduceAdd, Nat.reduceSub, List.replicate, List.cons_append, List.nil_append, Nat.zero_add, Nat.sub_self]
    refine ev_seq (ev_asg (ev_F (ev_cons rfl (ev_cons rfl (ev_cons rfl (ev_cons rfl (ev_cons rfl rfl))))) hw1) rfl) ?_
    rw [vS_eq hs hso]
    unfold bestT
    rw [sb1]
    have g0 : gainT S (stateT srt S names L fl) false = 0 := rfl
    rw [g0, Int.zero_add]
    cases hk2 : mayT S (stateT srt S names L fl) with
    | false =>
      rw [hk2] at hmay
      rw [if_neg Bool.false_ne_true]
      exact ev_seq (ev_ifF (ev_Tr (ev_F (ev_cons rfl (ev_cons rfl (ev_cons rfl (ev_cons rfl rfl)))) hmay) rfl) rfl) (ev_ret rfl)
    | true =>
      rw [hk2] at hmay
      have hends := may_ends hs ok hk2
      have tk2 := tak_step ok w tk hL (take := true) fun _ => hends
      have hw2 := worst (names ++ [L]) tk2
      have sb2 := sb_state hs ok w (most := most) tk hL (take := true) (fl := fl) fun _ => hends
      have htl := tk.len
      have hcat : oCatL (.list (names.map eN)) (.list [eN L]) = some (.list ((names ++ [L]).map eN)) := by
        rw [List.map_append]
        exact if_pos (by rw [List.length_map]; show names.length + 1 ≤ _; omega)
      rw [if_pos rfl, sb2]
      have hmx : ∀ x y : Int, fMax2 [.int x, .int y] = some (.int (max x y)) := fun x y => by
        show some (PyData.int (if y > x then y else x)) = _
        by_cases c : y > x
        · rw [if_pos c, Int.max_eq_right (by omega)]
        · rw [if_neg c, Int.max_eq_left (by omega)]
      exact ev_seq (ev_ifT (ev_Tr (ev_F (ev_cons rfl (ev_cons rfl (ev_cons rfl (ev_cons rfl rfl)))) hmay) rfl) (ev_asg (ev_F (ev_cons rfl (ev_cons (ev_B (ev_B (ev_B rfl rfl rfl) (ev_B (ev_B (ev_B rfl rfl rfl) rfl hlk) rfl rfl) hwo) (ev_F (ev_cons rfl (ev_cons (ev_B rfl (ev_lst (ev_cons rfl rfl)) hcat) (ev_cons rfl (ev_cons rfl (ev_cons rfl rfl))))) hw2) rfl) rfl)) (hmx _ _)) rfl)) (ev_ret rfl)
theorem sortI_nil (hs : Srt srt) : sortI srt [] = [] := List.Perm.eq_nil (hs.sortI []).2
theorem state_first (hs : Srt srt) {S : Sky} (ok : SkyOk S) (w : SkyW S) (hL : 0 < S.looks.length) (fl : List Nat) : stateT srt S [] 0 fl = ⟨0, none, 0, [], fl⟩ := by
  unfold stateT
  rw [store_none (keep_ok ok.ears fl) (w.st _ (lk_mem hL)).1]
  show (⟨0, none, 0, sortI srt [], fl⟩ : St) = _
  rw [sortI_nil hs]
theorem r_sure_worth (hs : Srt srt) {S : Sky} (ok : SkyOk S) (w : SkyW S) {most : Int} (h0 : 0 ≤ most) (hm3 : most ≤ 3) : s_law_sure_worth [eSky S, .int most] = some (.int (minD ((firstT S most).map (vS srt S most)))) := by
  have hLim : LIM = 16777216 := rfl
  have h5 := ok.looksN
  have hlen := fLen_map eLook S.looks
  unfold firstT
  by_cases h : S.looks.length = 0
  · rw [if_pos h]
    have he : cEq (eN S.looks.length) (.int 0) = some true := congrArg some (decide_eq_true (by omega))
    refine ev_run rfl ?_; unfold b_law_sure_worth; simp only [List.map_cons, List.map_nil, List.length_cons, List.length_nil, Nat.reduceAdd, Nat.reduceSub, List.replicate, List.cons_append, List.nil_append, Nat.zero_add, Nat.sub_self]
    exact ev_seqR (ev_ifT (ev_tC (ev_F (ev_cons (ev_B rfl rfl rfl) rfl) hlen) rfl he) (ev_ret rfl))
  · rw [if_neg h]
    have hL : 0 < S.looks.length := by omega
    have he : cEq (eN S.looks.length) (.int 0) = some false := congrArg some (decide_eq_false (by omega))
    have hfa : s_law_fates [eSky S, .int 0, .tuple [], .int most] = _ := r_law_fates (L := 0) (most := most) ok hL (fl := []) (by simp)
    have hs0 : sinceT S 0 = -1 := rfl
    rw [hs0] at hfa
    have hfl := ways_len (names := begT S.ears (-1) (lkT S 0).st) (failed := []) (most := most) (by have := begT_le S.ears (-1) (lkT S 0).st; have := ok.earsN; omega)
    have hne : ((waysT (begT S.ears (-1) (lkT S 0).st) [] most).map fun f => vS srt S most ⟨0, none, 0, [], f⟩) ≠ [] := by
      intro e
      rw [List.map_eq_nil_iff] at e
      have : [] ∈ waysT (begT S.ears (-1) (lkT S 0).st) [] most := waysT_mem.mpr ⟨⟨[], List.nil_sublist _, by simp⟩, by simpa using h0⟩
      rw [e] at this
      cases this
    have hmin := fMin_map hne
    have hlc := ev_lcA (enc := eNs) (src := iL (eF s_law_fates (aCons (eV 0) (aCons (eC (.int 0)) (aCons (eTup aNil) (aCons (eV 1) aNil)))))) (tg := .n 2) (el := eF (s_law_sure 16) (aCons (eV 0) (aCons (eLst aNil) (aCons (eC (.int 0)) (aCons (eV 2) (aCons (eV 1) aNil))))))
      (r := vA [.im (eSky S), .im (.int most), .no]) (fun f => .int (vS srt S most ⟨0, none, 0, [], f⟩)) (xs := waysT (begT S.ears (-1) (lkT S 0).st) [] most)
      (ev_iL (ev_F (ev_cons rfl (ev_cons rfl (ev_cons rfl (ev_cons rfl rfl)))) hfa)) (by omega) fun f hfm => by
        have hfo := (waysT_mem.mp hfm).2
        have ih := r_pair hs ok w hm3 S.looks.length 16 [] 0 f ⟨Nat.zero_le _, fun p hp => (by cases hp), fun init p e => (by cases init <;> cases e)⟩ (by omega) hL (by omega) hfo
        rw [state_first hs ok w hL] at ih
        exact ⟨_, rfl, ev_F (ev_cons rfl (ev_cons rfl (ev_cons rfl (ev_cons rfl (ev_cons rfl rfl))))) ih, rfl⟩
    refine ev_run rfl ?_; unfold b_law_sure_worth; simp only [List.map_cons, List.map_nil, List.length_cons, List.length_nil, Nat.reduceAdd, Nat.reduceSub, List.replicate, List.cons_append, List.nil_append, Nat.zero_add, Nat.sub_self]
    rw [List.map_map]
    refine ev_seq (ev_ifF (ev_tC (ev_F (ev_cons (ev_B rfl rfl rfl) rfl) hlen) rfl he) rfl) (ev_ret (ev_F (ev_cons (x := .list (((waysT (begT S.ears (-1) (lkT S 0).st) [] most).map fun f => vS srt S most ⟨0, none, 0, [], f⟩).map .int)) ?_ rfl) hmin))
    rw [List.map_map]
    exact hlc
end
end Sk
/-! SkPure14: the failings, the taken -/
namespace Sk
open PySem
section
variable {srt : List D → List D}
theorem r_law_failings (hs : Srt srt) {S : Sky} (ok : SkyOk S) {most : Int} (h0 : 0 ≤ most) : ∃ Fs : List (List Nat), s_law_failings srt [eSky S, .int most] = some (.list (Fs.map eNs)) ∧ Fs.Perm (waysT (List.range S.ears.length) [] most) := by
  have hLim : LIM = 16777216 := rfl
  have h3 := ok.earsN
  have hlen := fLen_map eEar S.ears
  obtain ⟨Fs, f1, f2⟩ := hs.map eNs (waysT (List.range S.ears.length) [] most)
  refine ⟨Fs, ?_, f2⟩
  have hb : ∀ done rest : List Nat, List.range S.ears.length = done ++ rest → (waysA done []).length ≤ 8 := fun done rest e => by
    rw [waysA_len]
    have e1 := congrArg List.length e
    rw [List.length_range, List.length_append] at e1
    exact Nat.le_trans (Nat.pow_le_pow_right (by decide) (show done.length ≤ 3 by omega)) (by decide)
  refine ev_run rfl ?_; unfold b_law_failings; simp only [List.map_cons, List.map_nil, List.length_cons, List.length_nil, Nat.reduceAdd, Nat.reduceSub, List.replicate, List.cons_append, List.nil_append, Nat.zero_add, Nat.sub_self]
  refine ev_seq (ev_asg (ev_lst (ev_cons (ev_tup rfl) rfl)) rfl) (runs_go (runs_for (enc := eN) (xs := List.range S.ears.length) (fun done g => ∃ j3 : Sl, g = [.im (eSky S), .im (.int most), .im (.list ((waysA done []).map eNs)), j3, .no])
    (ev_iR (ev_F (ev_cons (ev_B rfl rfl rfl) rfl) hlen) (by omega)) ⟨_, rfl⟩ (fun done n rest hd g ⟨j3, hg⟩ => ?_) fun g h => h) fun g ⟨j3, hg⟩ => ?_)
  · subst hg
    refine ⟨_, rfl, ?_⟩
    have b1 := hb done (n :: rest) hd
    have e1 := congrArg List.length hd
    rw [List.length_range, List.length_append] at e1
    have hlc : eLc (iL (eV 2)) (.n 4) tTrue (eB oCatT (eV 4) (eTup (aCons (eV 3) aNil))) (vI [.im (eSky S), .im (.int most), .im (.list ((waysA done []).map eNs)), .im (eN n), .no]) = some (.list ((waysA done []).map fun w => eNs (w ++ [n]))) :=
      ev_lcA (enc := eNs) (fun w => eNs (w ++ [n])) (ev_iL rfl) (by omega) fun w hw => by
        obtain ⟨sub, hsu, e⟩ := waysA_mem hw
        have e : w = sub := e
        subst e
        have h1 := hsu.length_le
        refine ⟨_, rfl, ev_B rfl (ev_tup (ev_cons rfl rfl)) ?_, rfl⟩
        show (if _ then _ else _) = _
        rw [if_pos (by simp only [List.length_map, List.length_append, List.length_cons, List.length_nil]; omega)]
        show some (PyData.tuple (List.map eN w ++ [eN n])) = _
        rw [show eNs (w ++ [n]) = PyData.tuple (List.map eN (w ++ [n])) from rfl, List.map_append (l₁ := w)]
        rfl
    have hcat : oCatL (.list ((waysA done []).map eNs)) (.list ((waysA done []).map fun w => eNs (w ++ [n]))) = some (.list ((waysA done []).map eNs ++ (waysA done []).map fun w => eNs (w ++ [n]))) := if_pos (by rw [List.length_map, List.length_map]; omega)
    rw [waysA_snoc]
    unfold growT
    rw [List.map_append, List.map_map]
    exact ⟨_, ev_asg (ev_B rfl hlc hcat) rfl, _, rfl⟩
  · subst hg
    have b1 := hb (List.range S.ears.length) [] (by simp)
    have hso : fSorted srt [.list ((waysT (List.range S.ears.length) [] most).map eNs)] = some (.list (Fs.map eNs)) := by
      rw [← f1]
      exact if_pos (ways_sortable _ _ h0)
    exact ev_ret (ev_F (ev_cons (ev_lc (enc := eNs) (fun w => decide ((w.length : Int) ≤ most)) eNs (ev_iL rfl) (by omega) fun w hw => ⟨_, rfl, ev_tC (ev_F (ev_cons rfl rfl) (fLen_mapT eN w)) rfl rfl, fun _ => ⟨rfl, rfl⟩⟩) rfl) hso)
/-- which ears of F have begun at look L's start -/
def flT (S : Sky) (F : List Nat) (L : Nat) : List Nat := F.filter fun k => decide ((S.ears.getD k e0).1 ≤ (lkT S L).st)
theorem lc_fl {S : Sky} {F : List Nat} {L : Nat} (hF : ∀ k ∈ F, k < S.ears.length) {src : FI} {t : Nat} {a b : FE} {r : Rho} (h0 : src r = some (F.map eN)) (hl : F.length ≤ LIM) (ha : ∀ k (e : Ear), S.ears[k]? = some e → a (r.set t (some (eN k))) = some (.int e.1)) (hb : ∀ k, b (r.set t (some (eN k))) = some (.int (lkT S L).st)) (hv : ∀ k, eV t (r.set t (some (eN k))) = some (eN k)) :
    eLc src (.n t) (tC cLe a b) (eV t) r = some (.list ((flT S F L).map eN)) :=
  ev_lc (enc := eN) (fun k => decide ((S.ears.getD k e0).1 ≤ (lkT S L).st)) eN h0 hl fun k hk => ⟨_, rfl, ev_tC (ha k _ (getD_of e0 (hF k hk))) (hb k) rfl, fun _ => ⟨hv k, rfl⟩⟩
/-- is look L taken -/
def tkB (srt : List D → List D) (S : Sky) (most : Int) (R : List St) (F : List Nat) (names : List Nat) (L : Nat) : Bool :=
  (decide (stateT srt S names L (flT S F L) ∈ R) && ruleT srt S most (stateT srt S names L (flT S F L))) && mayT S (stateT srt S names L (flT S F L))
def namesT (srt : List D → List D) (S : Sky) (most : Int) (R : List St) (F : List Nat) : Nat → List Nat
  | 0 => []
  | L + 1 => takN (namesT srt S most R F L) L (tkB srt S most R F (namesT srt S most R F L) L)
theorem tkB_ends (hs : Srt srt) {S : Sky} (ok : SkyOk S) {most : Int} {R : List St} {F names : List Nat} {L : Nat} (h : tkB srt S most R F names L = true) : ∀ p, names.getLast? = some p → (lkT S p).st + (lkT S p).ln ≤ (lkT S L).st := by
  unfold tkB at h
  rw [Bool.and_eq_true] at h
  exact may_ends hs ok h.2
theorem names_ok (hs : Srt srt) {S : Sky} (ok : SkyOk S) (w : SkyW S) {most : Int} {R : List St} {F : List Nat} : ∀ L, L ≤ S.looks.length → TakOk S (namesT srt S most R F L) L
  | 0, _ => ⟨Nat.zero_le _, fun p hp => (by cases hp), fun init p e => (by cases init <;> cases e)⟩
  | L + 1, h => tak_step ok w (names_ok hs ok w L (by omega)) (by omega) fun ht => tkB_ends hs ok ht
theorem filter_one {α : Type} [DecidableEq α] {l : List α} (hn : l.Nodup) (x : α) : (l.filter fun y => decide (y = x)) = if x ∈ l then [x] else [] := by
  induction l with
  | nil => rfl
  | cons y l ih =>
    rw [List.nodup_cons] at hn
    by_cases h : y = x
    · subst h
      rw [List.filter_cons_of_pos (by simp), ih hn.2, if_neg hn.1, if_pos List.mem_cons_self]
    · rw [List.filter_cons_of_neg (by simp [h]), ih hn.2]
      by_cases h2 : x ∈ l
      · rw [if_pos h2, if_pos (List.mem_cons_of_mem _ h2)]
      · rw [if_neg h2, if_neg (by rw [List.mem_cons, not_or]; exact ⟨Ne.symm h, h2⟩)]
theorem r_law_taken (hs : Srt srt) {S : Sky} (ok : SkyOk S) (w : SkyW S) {most : Int} {R : List St} (hR : R.Nodup) (hRl : R.length ≤ 559240) {F : List Nat} (hF : ∀ k ∈ F, k < S.ears.length) (hFl : F.length ≤ 10) :
    s_law_taken srt [eSky S, .list (R.map (eRl srt S most)), eNs F] = some (.list ((namesT srt S most R F S.looks.length).map eN)) := by
  have hLim : LIM = 16777216 := rfl
  have h5 := ok.looksN
  have hlen := fLen_map eLook S.looks
  refine ev_run rfl ?_; unfold b_law_taken; simp only [List.map_cons, List.map_nil, List.length_cons, List.length_nil, Nat.reduceAdd, Nat.reduceSub, List.replicate, List.cons_append, List.nil_append, Nat.zero_add, Nat.sub_self]
  refine ev_seq (ev_asg rfl rfl) (runs_go (runs_for (enc := eN) (xs := List.range S.looks.length) (fun done g => ∃ j4 j5 j6 j7 : Sl, g = [.im (eSky S), .im (.list (R.map (eRl srt S most))), .im (eNs F), .im (.list ((namesT srt S most R F done.length).map eN)), j4, j5, j6, j7, .no, .no, .no])
    (ev_iR (ev_F (ev_cons (ev_B rfl rfl rfl) rfl) hlen) (by omega)) ⟨_, _, _, _, rfl⟩ (fun done L rest hd g ⟨j4, j5, j6, j7, hg⟩ => ?_) fun g h => h) fun g ⟨j4, j5, j6, j7, hg⟩ => ?_)
  · subst hg
    have hLd : L = done.length := by
      have e : (List.range S.looks.length)[done.length]? = some L := by rw [hd, List.getElem?_append_right (Nat.le_refl _), Nat.sub_self]; rfl
      obtain ⟨q1, q2⟩ := List.getElem?_eq_some_iff.mp e
      rw [List.getElem_range] at q2
      exact q2.symm
    subst hLd
    have hL : done.length < S.looks.length := List.mem_range.mp (by rw [hd]; simp)
    have tk := names_ok (srt := srt) (most := most) (R := R) (F := F) hs ok w done.length (by omega)
    have hlk := atD_map (f := eLook) (lk_at hL)
    have hstate := r_law_state hs ok w tk hL (flT S F done.length)
    have hmay := r_law_may hs ok w tk hL (flT S F done.length)
    rw [List.length_append]
    show ∃ g', _ ∧ Runs _ g' fun g => ∃ j4 j5 j6 j7 : Sl, g = [.im (eSky S), .im (.list (R.map (eRl srt S most))), .im (eNs F), .im (.list ((takN (namesT srt S most R F done.length) done.length (tkB srt S most R F (namesT srt S most R F done.length) done.length)).map eN)), j4, j5, j6, j7, .no, .no, .no]
    unfold tkB
    generalize hst : stateT srt S (namesT srt S most R F done.length) done.length (flT S F done.length) = st at hstate hmay ⊢
    generalize hnm : namesT srt S most R F done.length = names at tk hstate hmay hst ⊢
    refine ⟨_, rfl, ?_⟩
    -- what the rule tells
    have htold : eLc (iL (eV 1)) (.t [8, 9]) (tC cEq (eV 8) (eV 6)) (eV 9) (vI [.im (eSky S), .im (.list (R.map (eRl srt S most))), .im (eNs F), .im (.list (names.map eN)), .im (eN done.length), .im (eNs (flT S F done.length)), .im (eSt st), j7, .no, .no, .no])
        = some (.list ((if st ∈ R then [st] else []).map fun s => mvS (ruleT srt S most s))) := by
      rw [← filter_one hR st]
      exact ev_lc (enc := eRl srt S most) (fun s => decide (s = st)) (fun s => mvS (ruleT srt S most s)) (ev_iL rfl) (by omega) fun s _ => ⟨_, rfl, ev_tC rfl rfl (cEq_st s st), fun _ => ⟨rfl, mvS_nd _⟩⟩
    have hcut : cEq (.list (cutD ((if st ∈ R then [st] else []).map fun s => mvS (ruleT srt S most s)) none (some 1))) (.list [.str "take"]) = some (decide (st ∈ R) && ruleT srt S most st) := by
      by_cases c : st ∈ R
      · rw [if_pos c, decide_eq_true c]
        show cEq (.list (cutD [mvS (ruleT srt S most st)] none (some 1))) _ = some (true && ruleT srt S most st)
        cases ruleT srt S most st <;> rfl
      · rw [if_neg c, decide_eq_false c]
        rfl
    have hpre : sSeq (sAsg (.n 5) (eF fTuple (aCons (eLc (iT (eV 2)) (.n 10) (tC cLe (eB oIx (eB oIx (eB oIx (eV 0) (eC (.int 2))) (eV 10)) (eC (.int 0))) (eB oIx (eB oIx (eB oIx (eV 0) (eC (.int 0))) (eV 4)) (eC (.int 1)))) (eV 10)) aNil)))
        (sSeq (sAsg (.n 6) (eF (s_law_state srt) (aCons (eV 0) (aCons (eV 3) (aCons (eV 4) (aCons (eV 5) aNil)))))) (sAsg (.n 7) (eLc (iL (eV 1)) (.t [8, 9]) (tC cEq (eV 8) (eV 6)) (eV 9))))
        [.im (eSky S), .im (.list (R.map (eRl srt S most))), .im (eNs F), .im (.list (names.map eN)), .im (eN done.length), j5, j6, j7, .no, .no, .no]
        = some (.nx [.im (eSky S), .im (.list (R.map (eRl srt S most))), .im (eNs F), .im (.list (names.map eN)), .im (eN done.length), .im (eNs (flT S F done.length)), .im (eSt st), .im (.list ((if st ∈ R then [st] else []).map fun s => mvS (ruleT srt S most s))), .no, .no, .no]) :=
      ev_seq (ev_asg (ev_F (ev_cons (lc_fl (L := done.length) hF (ev_iT rfl) (by omega) (fun k e hke => ev_B (ev_B (ev_B rfl rfl rfl) rfl (atD_map (f := eEar) hke)) rfl rfl) (fun k => ev_B (ev_B (ev_B rfl rfl rfl) rfl hlk) rfl rfl) fun k => rfl) rfl) rfl) rfl)
        (ev_seq (ev_asg (ev_F (ev_cons rfl (ev_cons rfl (ev_cons rfl (ev_cons rfl rfl)))) hstate) rfl) (ev_asg htold rfl))
    have hassoc : ∀ (a b c d : SE) (g : Gam), sSeq a (sSeq b (sSeq c d)) g = sSeq (sSeq a (sSeq b c)) d g := fun a b c d g => by
      unfold sSeq
      cases a g with
      | none => rfl
      | some o =>
        cases o with
        | nx g1 =>
          show ((b g1).bind _) = _
          show _ = ((b g1).bind _).bind _
          cases b g1 with
          | none => rfl
          | some o2 =>
            cases o2 with
            | nx g2 => rfl
            | rt d => rfl
            | bk g2 => rfl
        | rt d => rfl
        | bk g1 => rfl
    have htest := ev_And (s := tC cEq (eCut (eV 7) oNo (oSome (eC (.int 1)))) (eLst (aCons (eC (.str "take")) aNil))) (t := tTr (eF s_law_may (aCons (eV 0) (aCons (eV 3) (aCons (eV 4) (aCons (eV 5) aNil))))))
      (r := vA [.im (eSky S), .im (.list (R.map (eRl srt S most))), .im (eNs F), .im (.list (names.map eN)), .im (eN done.length), .im (eNs (flT S F done.length)), .im (eSt st), .im (.list ((if st ∈ R then [st] else []).map fun s => mvS (ruleT srt S most s))), .no, .no, .no])
      (ev_tC (ev_cut rfl rfl (ev_some rfl)) (ev_lst (ev_cons rfl rfl)) hcut) (ev_Tr (ev_F (ev_cons rfl (ev_cons rfl (ev_cons rfl (ev_cons rfl rfl)))) hmay) rfl)
    have htl := tk.len
    have hcat : oCatL (.list (names.map eN)) (.list [eN done.length]) = some (.list ((names ++ [done.length]).map eN)) := by
      rw [List.map_append]
      exact if_pos (by rw [List.length_map]; show names.length + 1 ≤ _; omega)
    have main : Runs (sIf (tAnd (tC cEq (eCut (eV 7) oNo (oSome (eC (.int 1)))) (eLst (aCons (eC (.str "take")) aNil))) (tTr (eF s_law_may (aCons (eV 0) (aCons (eV 3) (aCons (eV 4) (aCons (eV 5) aNil)))))))
        (sAsg (.n 3) (eB oCatL (eV 3) (eLst (aCons (eV 4) aNil)))) sNil)
        [.im (eSky S), .im (.list (R.map (eRl srt S most))), .im (eNs F), .im (.list (names.map eN)), .im (eN done.length), .im (eNs (flT S F done.length)), .im (eSt st), .im (.list ((if st ∈ R then [st] else []).map fun s => mvS (ruleT srt S most s))), .no, .no, .no]
        (fun g => ∃ j4 j5 j6 j7 : Sl, g = [.im (eSky S), .im (.list (R.map (eRl srt S most))), .im (eNs F), .im (.list ((takN names done.length ((decide (st ∈ R) && ruleT srt S most st) && mayT S st)).map eN)), j4, j5, j6, j7, .no, .no, .no]) := by
      refine runs_if htest (fun hk => ?_) fun hk => ?_
      · rw [hk]
        exact ⟨_, ev_asg (ev_B rfl (ev_lst (ev_cons rfl rfl)) hcat) rfl, _, _, _, _, rfl⟩
      · rw [hk]
        exact ⟨_, rfl, _, _, _, _, rfl⟩
    obtain ⟨g1, m1, m2⟩ := main
    refine ⟨g1, ?_, m2⟩
    rw [hassoc]
    exact ev_seq hpre m1
  · subst hg
    rw [List.length_range]
    exact ev_ret rfl
end
end Sk
/-! SkPure15: what is met; bounds of whole lists -/
namespace Sk
open PySem
section
variable {srt : List D → List D}
theorem filter_split (f : Nat → Int) {x y : Int} (hxy : x ≤ y) : ∀ {l : List Nat}, l.Pairwise (fun a b => f a < f b) → l.filter (fun k => decide (f k ≤ y)) = l.filter (fun k => decide (f k ≤ x)) ++ l.filter (fun k => decide (x < f k) && decide (f k ≤ y))
  | [], _ => rfl
  | a :: l, h => by
    rw [List.pairwise_cons] at h
    have ih := filter_split f hxy h.2
    by_cases h1 : f a ≤ x
    · rw [List.filter_cons_of_pos (by simpa using Int.le_trans h1 hxy), List.filter_cons_of_pos (by simpa using h1), List.filter_cons_of_neg (by simp; omega), ih]
      rfl
    · have none : (a :: l).filter (fun k => decide (f k ≤ x)) = [] := by
        rw [List.filter_eq_nil_iff]
        intro b hb
        rcases List.mem_cons.mp hb with rfl | hb
        · simpa using h1
        · have := h.1 b hb
          simp; omega
      rw [none, List.nil_append]
      refine List.filter_congr fun b hb => ?_
      have : x < f b := by
        rcases List.mem_cons.mp hb with rfl | hb
        · omega
        · have := h.1 b hb; omega
      rw [decide_eq_true this, Bool.true_and]
theorem range_pair {S : Sky} (w : SkyW S) : (List.range S.ears.length).Pairwise fun a b => (S.ears.getD a e0).1 < (S.ears.getD b e0).1 := by
  have h := List.pairwise_lt_range (n := S.ears.length)
  exact h.imp_of_mem fun {a b} ha hb hab => w.eup a b hab (List.mem_range.mp hb)
/-- a set of ears that may fail -/
structure FOkT (S : Sky) (most : Int) (F : List Nat) : Prop where
  sub : F.Sublist (List.range S.ears.length)
  len : (F.length : Int) ≤ most
theorem flT_split {S : Sky} (w : SkyW S) {F : List Nat} (hF : F.Sublist (List.range S.ears.length)) {L M : Nat} (h : L ≤ M) (hM : M < S.looks.length) : flT S F M = flT S F L ++ F.filter (begP S.ears (lkT S L).st (lkT S M).st) :=
  filter_split (fun k => (S.ears.getD k e0).1) (w.up L M h hM) ((range_pair w).sublist hF)
def metS (srt : List D → List D) (S : Sky) (most : Int) (R : List St) (F : List Nat) (L : Nat) : St := stateT srt S (namesT srt S most R F L) L (flT S F L)
structure MCtx (srt : List D → List D) (S : Sky) (most : Int) (R R2 : List St) : Prop where
  hs : Srt srt
  ok : SkyOk S
  w : SkyW S
  h0 : 0 ≤ most
  h3 : most ≤ 3
  r : ROk srt S most R
  r2 : ∀ s, s ∈ R2 ↔ s ∈ R
variable {S : Sky} {most : Int} {R R2 : List St}
theorem fl_len (F : List Nat) (L : Nat) : (flT S F L).length ≤ F.length := List.length_filter_le ..
theorem MCtx.tkB (c : MCtx srt S most R R2) {F : List Nat} {L : Nat} (h : metS srt S most R2 F L ∈ R) : tkB srt S most R2 F (namesT srt S most R2 F L) L = ruleT srt S most (metS srt S most R2 F L) := by
  unfold Sk.tkB
  unfold metS at h ⊢
  rw [decide_eq_true ((c.r2 _).mpr h), Bool.true_and]
  unfold ruleT
  cases mayT S (stateT srt S (namesT srt S most R2 F L) L (flT S F L)) <;> simp
theorem rule_moves {s : St} : ruleT srt S most s ∈ movesT S s := by
  unfold movesT ruleT
  cases mayT S s with
  | false => simp
  | true => rw [if_pos rfl]; cases decide (sbT srt S most (vS srt S most) s true = vS srt S most s) <;> simp
theorem rule_best (hs : Srt srt) {s : St} (h : StOk S most s) : vS srt S most s = sbT srt S most (vS srt S most) s (ruleT srt S most s) := by
  have hv := vS_eq hs h
  unfold bestT at hv
  unfold ruleT
  cases hm : mayT S s with
  | false =>
    rw [hm, if_neg Bool.false_ne_true] at hv
    exact hv
  | true =>
    rw [hm, if_pos rfl] at hv
    rw [Bool.true_and]
    by_cases e : sbT srt S most (vS srt S most) s true = vS srt S most s
    · rw [decide_eq_true e, e]
    · rw [decide_eq_false e]
      rw [hv] at e ⊢
      rcases Int.le_total (sbT srt S most (vS srt S most) s false) (sbT srt S most (vS srt S most) s true) with q | q
      · rw [Int.max_eq_right q] at e
        exact absurd rfl e
      · exact Int.max_eq_left q
theorem met_zero (c : MCtx srt S most R R2) (hL : 0 < S.looks.length) (F : List Nat) : metS srt S most R2 F 0 = ⟨0, none, 0, [], flT S F 0⟩ := state_first c.hs c.ok c.w hL _
theorem begT_filter (ears : List Ear) (since til : Int) : begT ears since til = (List.range ears.length).filter (begP ears since til) := rfl
theorem met_first (c : MCtx srt S most R R2) (hL : 0 < S.looks.length) {F : List Nat} (hF : FOkT S most F) : metS srt S most R2 F 0 ∈ firstT S most := by
  rw [met_zero c hL]
  unfold firstT
  rw [if_neg (by omega)]
  refine List.mem_map.mpr ⟨flT S F 0, waysT_mem.mpr ⟨⟨flT S F 0, ?_, rfl⟩, ?_⟩, rfl⟩
  · have h1 : (flT S F 0).Sublist ((List.range S.ears.length).filter fun k => decide ((S.ears.getD k e0).1 ≤ (lkT S 0).st)) := hF.sub.filter _
    have h2 : ((List.range S.ears.length).filter fun k => decide ((S.ears.getD k e0).1 ≤ (lkT S 0).st)) = begT S.ears (-1) (lkT S 0).st := by
      rw [begT_filter]
      refine List.filter_congr fun k hk => ?_
      have := c.w.en _ (List.mem_of_getElem? (getD_of e0 (List.mem_range.mp hk)))
      unfold begP
      rw [decide_eq_true (show -1 < (S.ears.getD k e0).1 by omega), Bool.true_and]
    rw [← h2]
    exact h1
  · have := fl_len (S := S) F 0
    have := hF.len
    omega
theorem met_step (c : MCtx srt S most R R2) {F : List Nat} (hF : FOkT S most F) {L : Nat} (hL : L + 1 < S.looks.length) (h : metS srt S most R2 F L ∈ R) :
    metS srt S most R2 F (L + 1) = mkT srt S (metS srt S most R2 F L) (ruleT srt S most (metS srt S most R2 F L)) (flT S F (L + 1)) ∧ metS srt S most R2 F (L + 1) ∈ behT srt S most (metS srt S most R2 F L) (ruleT srt S most (metS srt S most R2 F L)) := by
  have htk := c.tkB h
  have hsp := flT_split c.w hF.sub (Nat.le_succ L) hL
  have tk := names_ok (srt := srt) (most := most) (R := R2) (F := F) c.hs c.ok c.w L (by omega)
  have hsub : (F.filter (begP S.ears (lkT S L).st (lkT S (L + 1)).st)).Sublist (begT S.ears (lkT S L).st (lkT S (L + 1)).st) := hF.sub.filter _
  have hmk := mk_state c.hs c.ok c.w tk hL (take := ruleT srt S most (metS srt S most R2 F L)) (fl := flT S F L) (fun ht => tkB_ends c.hs c.ok (by rw [htk]; exact ht)) hsub
  rw [← hsp] at hmk
  have e : metS srt S most R2 F (L + 1) = mkT srt S (metS srt S most R2 F L) (ruleT srt S most (metS srt S most R2 F L)) (flT S F (L + 1)) := by
    have e2 : metS srt S most R2 F (L + 1) = stateT srt S (takN (namesT srt S most R2 F L) L (ruleT srt S most (metS srt S most R2 F L))) (L + 1) (flT S F (L + 1)) := by
      rw [← htk]; rfl
    rw [e2]
    exact hmk.symm
  refine ⟨e, ?_⟩
  rw [e]
  unfold behT
  rw [if_neg (show ¬ (metS srt S most R2 F L).look + 1 = S.looks.length by show ¬ L + 1 = _; omega)]
  refine List.mem_map.mpr ⟨flT S F (L + 1), waysT_mem.mpr ⟨⟨_, hsub, hsp⟩, ?_⟩, rfl⟩
  have := fl_len (S := S) F (L + 1)
  have := hF.len
  omega
theorem met_in (c : MCtx srt S most R R2) {F : List Nat} (hF : FOkT S most F) : ∀ L, L < S.looks.length → metS srt S most R2 F L ∈ R
  | 0, h => c.r.first _ (met_first c h hF)
  | L + 1, h => by
    have ih := met_in c hF L (by omega)
    exact c.r.clo _ ih _ rule_moves _ (met_step c hF h ih).2
theorem names_congr {F F' : List Nat} : ∀ L, (∀ l, l < L → flT S F' l = flT S F l) → namesT srt S most R2 F' L = namesT srt S most R2 F L
  | 0, _ => rfl
  | L + 1, h => by
    have ih := names_congr L fun l hl => h l (by omega)
    show takN (namesT srt S most R2 F' L) L (tkB srt S most R2 F' (namesT srt S most R2 F' L) L) = takN (namesT srt S most R2 F L) L (tkB srt S most R2 F (namesT srt S most R2 F L) L)
    rw [ih]
    unfold tkB
    rw [h L (Nat.lt_succ_self L)]
/-- what is behind a met state by the rule is met -/
theorem met_beh (c : MCtx srt S most R R2) {F : List Nat} (hF : FOkT S most F) {L : Nat} (hL : L < S.looks.length) {b : St} (hb : b ∈ behT srt S most (metS srt S most R2 F L) (ruleT srt S most (metS srt S most R2 F L))) :
    ∃ F', FOkT S most F' ∧ L + 1 < S.looks.length ∧ b = metS srt S most R2 F' (L + 1) := by
  unfold behT at hb
  split at hb
  · cases hb
  · rename_i hne
    have hne : ¬ L + 1 = S.looks.length := hne
    have hL1 : L + 1 < S.looks.length := by omega
    obtain ⟨f, hf, rfl⟩ := List.mem_map.mp hb
    obtain ⟨⟨sub, h1, rfl⟩, h2⟩ := waysT_mem.mp hf
    have h1 : sub.Sublist ((List.range S.ears.length).filter (begP S.ears (lkT S L).st (lkT S (L + 1)).st)) := h1
    have hfl : (flT S F L).Sublist (flT S (List.range S.ears.length) L) := hF.sub.filter _
    have hsp := flT_split c.w (List.Sublist.refl (List.range S.ears.length)) (Nat.le_succ L) hL1
    have hFs : (flT S F L ++ sub).Sublist (List.range S.ears.length) := by
      have : (flT S F L ++ sub).Sublist (flT S (List.range S.ears.length) (L + 1)) := by rw [hsp]; exact hfl.append h1
      exact this.trans List.filter_sublist
    have hF' : FOkT S most (flT S F L ++ sub) := ⟨hFs, h2⟩
    have hsubP : ∀ k ∈ sub, (lkT S L).st < (S.ears.getD k e0).1 ∧ (S.ears.getD k e0).1 ≤ (lkT S (L + 1)).st := fun k hk => by
      have := (List.mem_filter.mp (h1.subset hk)).2
      unfold begP at this
      rw [Bool.and_eq_true] at this
      exact ⟨of_decide_eq_true this.1, of_decide_eq_true this.2⟩
    have e1 : ∀ l, l ≤ L → flT S (flT S F L ++ sub) l = flT S F l := fun l hl => by
      have hup := c.w.up l L hl hL
      unfold flT
      rw [List.filter_append, List.filter_filter]
      have : sub.filter (fun k => decide ((S.ears.getD k e0).1 ≤ (lkT S l).st)) = [] := by
        rw [List.filter_eq_nil_iff]
        intro k hk
        have := (hsubP k hk).1
        simp only [decide_eq_true_eq]
        omega
      rw [this, List.append_nil]
      refine List.filter_congr fun k _ => ?_
      by_cases q : (S.ears.getD k e0).1 ≤ (lkT S l).st
      · rw [decide_eq_true q, decide_eq_true (show (S.ears.getD k e0).1 ≤ (lkT S L).st by omega)]; rfl
      · rw [decide_eq_false q]; rfl
    have e2 : flT S (flT S F L ++ sub) (L + 1) = flT S F L ++ sub := by
      have hup := c.w.up L (L + 1) (Nat.le_succ L) hL1
      refine List.filter_eq_self.mpr fun k hk => ?_
      rcases List.mem_append.mp hk with q | q
      · have := of_decide_eq_true (List.mem_filter.mp q).2
        exact decide_eq_true (by omega)
      · exact decide_eq_true (hsubP k q).2
    have e3 : metS srt S most R2 (flT S F L ++ sub) L = metS srt S most R2 F L := by
      unfold metS
      rw [names_congr L fun l hl => e1 l (by omega), e1 L (Nat.le_refl L)]
    refine ⟨flT S F L ++ sub, hF', hL1, ?_⟩
    have hin := met_in c hF' L hL
    have hst := (met_step c hF' hL1 hin).1
    rw [e3, e2] at hst
    exact hst.symm
/-- met, all of them -/
def IsMet (srt : List D → List D) (S : Sky) (most : Int) (R2 M : List St) : Prop := ∀ s, s ∈ M ↔ ∃ F, FOkT S most F ∧ ∃ L, L < S.looks.length ∧ s = metS srt S most R2 F L
theorem first_met (c : MCtx srt S most R R2) {s : St} (h : s ∈ firstT S most) : 0 < S.looks.length ∧ ∃ F, FOkT S most F ∧ s = metS srt S most R2 F 0 := by
  have h' := h
  unfold firstT at h'
  split at h'
  · cases h'
  · rename_i hne
    have hL : 0 < S.looks.length := by omega
    obtain ⟨f, hf, rfl⟩ := List.mem_map.mp h'
    obtain ⟨⟨sub, h1, e⟩, h2⟩ := waysT_mem.mp hf
    have e : f = sub := e
    subst e
    have h1 : f.Sublist ((List.range S.ears.length).filter (begP S.ears (-1) (lkT S 0).st)) := h1
    refine ⟨hL, f, ⟨h1.trans List.filter_sublist, h2⟩, ?_⟩
    rw [met_zero c hL]
    have : flT S f 0 = f := List.filter_eq_self.mpr fun k hk => by
      have := (List.mem_filter.mp (h1.subset hk)).2
      unfold begP at this
      rw [Bool.and_eq_true] at this
      exact this.2
    rw [this]
theorem valN_map {M : List St} (hn : M.Nodup) {s : St} (h : s ∈ M) : valN (M.map fun s => (s, vS srt S most s)) s = vS srt S most s := by
  unfold valN
  rw [vals_at hn h]
  rfl
theorem low_met (c : MCtx srt S most R R2) {M : List St} (hn : M.Nodup) (hM : IsMet srt S most R2 M) : LowT srt S most (M.map fun s => (s, vS srt S most s)) := by
  refine ⟨fun f hf => ?_, fun p hp => ?_⟩
  · rw [keys_of]
    obtain ⟨hL, F, hF, e⟩ := first_met c hf
    exact (hM f).mpr ⟨F, hF, 0, hL, e⟩
  · obtain ⟨s, hsM, rfl⟩ := List.mem_map.mp hp
    obtain ⟨F, hF, L, hL, e⟩ := (hM s).mp hsM
    have hin := met_in c hF L hL
    rw [← e] at hin
    have hso := c.r.ok s hin
    have hb : ∀ b ∈ behT srt S most s (ruleT srt S most s), b ∈ M := fun b hb => by
      rw [e] at hb
      obtain ⟨F', h1, h2, h3⟩ := met_beh c hF hL hb
      exact (hM b).mpr ⟨F', h1, L + 1, h2, h3⟩
    refine ⟨ruleT srt S most s, rule_moves, ?_⟩
    unfold goodB
    rw [keys_of, decide_eq_true hb, Bool.true_and]
    refine decide_eq_true ?_
    have : sbT srt S most (valN (M.map fun s => (s, vS srt S most s))) s (ruleT srt S most s) = sbT srt S most (vS srt S most) s (ruleT srt S most s) := by
      unfold sbT
      congr 2
      exact List.map_congr_left fun b hb' => valN_map hn (hb b hb')
    show vS srt S most s ≤ sbT srt S most (valN (M.map fun s => (s, vS srt S most s))) s (ruleT srt S most s)
    rw [this, ← rule_best c.hs hso]
    exact Int.le_refl _
theorem min_met (c : MCtx srt S most R R2) {M : List St} (hM : IsMet srt S most R2 M) : minD ((M.filter fun s => decide (s.look = 0)).map (vS srt S most)) = minD ((firstT S most).map (vS srt S most)) := by
  refine minD_set (fun x hx => ?_) fun x hx => ?_
  · obtain ⟨s, hs, rfl⟩ := List.mem_map.mp hx
    obtain ⟨h1, h2⟩ := List.mem_filter.mp hs
    obtain ⟨F, hF, L, hL, e⟩ := (hM s).mp h1
    have hin := met_in c hF L hL
    rw [← e] at hin
    exact List.mem_map.mpr ⟨s, c.r.look0 s hin (of_decide_eq_true h2), rfl⟩
  · obtain ⟨s, hs, rfl⟩ := List.mem_map.mp hx
    obtain ⟨hL, F, hF, e⟩ := first_met c hs
    exact List.mem_map.mpr ⟨s, List.mem_filter.mpr ⟨(hM s).mpr ⟨F, hF, 0, hL, e⟩, decide_eq_true (firstT_ok hs).2⟩, rfl⟩

/-! ### bounds of whole lists -/
theorem sb_mono {f g : St → Int} {s : St} {take : Bool} (h : ∀ b ∈ behT srt S most s take, f b ≤ g b) : sbT srt S most f s take ≤ sbT srt S most g s take := by
  unfold sbT
  have := minD_mono h
  omega
theorem sb_best (hs : Srt srt) {s : St} (h : StOk S most s) {take : Bool} (ht : take ∈ movesT S s) : sbT srt S most (vS srt S most) s take ≤ vS srt S most s := by
  rw [vS_eq hs h]
  unfold bestT
  unfold movesT at ht
  cases hm : mayT S s with
  | false =>
    rw [hm, if_neg Bool.false_ne_true, List.mem_singleton] at ht
    rw [if_neg Bool.false_ne_true, ht]
    exact Int.le_refl _
  | true =>
    rw [hm, if_pos rfl] at ht
    rw [if_pos rfl]
    cases take with
    | false => exact Int.le_max_left ..
    | true => exact Int.le_max_right ..
theorem valN_row {rows : Num} (hn : (rows.map (·.1)).Nodup) {p : St × Int} (h : p ∈ rows) : valN rows p.1 = p.2 := by
  unfold valN
  rw [getN_some hn (show (p.1, p.2) ∈ rows from h)]
  rfl
theorem rows_low (c : MCtx srt S most R R2) {rows : Num} (hn : (rows.map (·.1)).Nodup) (hk : ∀ s, s ∈ rows.map (·.1) ↔ s ∈ R) (h : LowT srt S most rows) : ∀ (k : Nat) (p : St × Int), p ∈ rows → S.looks.length ≤ p.1.look + k → p.2 ≤ vS srt S most p.1
  | 0, p, hp, hl => by
    have := (c.r.ok p.1 ((hk p.1).mp (List.mem_map.mpr ⟨p, hp, rfl⟩))).look
    omega
  | k + 1, p, hp, hl => by
    have hso := c.r.ok p.1 ((hk p.1).mp (List.mem_map.mpr ⟨p, hp, rfl⟩))
    obtain ⟨take, ht, hg⟩ := h.2 p hp
    unfold goodB at hg
    rw [Bool.and_eq_true] at hg
    have hb := of_decide_eq_true hg.1
    have hv := of_decide_eq_true hg.2
    have h1 : sbT srt S most (valN rows) p.1 take ≤ sbT srt S most (vS srt S most) p.1 take := sb_mono fun b hbb => by
      obtain ⟨q, hq, e⟩ := List.mem_map.mp (hb b hbb)
      have hlk := (behT_ok c.hs hso hbb).2
      have := rows_low c hn hk h k q hq (by rw [e, hlk]; omega)
      rw [← e, valN_row hn hq]
      exact this
    have h2 := sb_best c.hs hso ht
    omega
theorem rows_up (c : MCtx srt S most R R2) {rows : Num} (hn : (rows.map (·.1)).Nodup) (hk : ∀ s, s ∈ rows.map (·.1) ↔ s ∈ R) (h : UpT srt S most rows) : ∀ (k : Nat) (p : St × Int), p ∈ rows → S.looks.length ≤ p.1.look + k → vS srt S most p.1 ≤ p.2
  | 0, p, hp, hl => by
    have := (c.r.ok p.1 ((hk p.1).mp (List.mem_map.mpr ⟨p, hp, rfl⟩))).look
    omega
  | k + 1, p, hp, hl => by
    have hpR := (hk p.1).mp (List.mem_map.mpr ⟨p, hp, rfl⟩)
    have hso := c.r.ok p.1 hpR
    have each : ∀ take ∈ movesT S p.1, sbT srt S most (vS srt S most) p.1 take ≤ p.2 := fun take ht => by
      have h1 : sbT srt S most (vS srt S most) p.1 take ≤ sbT srt S most (valN rows) p.1 take := sb_mono fun b hbb => by
        have hbR := c.r.clo p.1 hpR take ht b hbb
        obtain ⟨q, hq, e⟩ := List.mem_map.mp ((hk b).mpr hbR)
        have hlk := (behT_ok c.hs hso hbb).2
        have := rows_up c hn hk h k q hq (by rw [e, hlk]; omega)
        rw [← e, valN_row hn hq]
        exact this
      exact Int.le_trans h1 (h p hp take ht)
    rw [rule_best c.hs hso]
    exact each _ rule_moves
def least0 (rows : Num) : Int := minD ((rows.filter fun p => decide (p.1.look = 0)).map (·.2))
theorem least_low (c : MCtx srt S most R R2) {rows : Num} (hn : (rows.map (·.1)).Nodup) (hk : ∀ s, s ∈ rows.map (·.1) ↔ s ∈ R) (h : LowT srt S most rows) : least0 rows ≤ minD ((firstT S most).map (vS srt S most)) := by
  unfold least0
  by_cases e : firstT S most = []
  · have : rows.filter (fun p => decide (p.1.look = 0)) = [] := by
      rw [List.filter_eq_nil_iff]
      intro p hp q
      have := c.r.look0 p.1 ((hk p.1).mp (List.mem_map.mpr ⟨p, hp, rfl⟩)) (of_decide_eq_true q)
      rw [e] at this
      cases this
    rw [this, e]
    exact Int.le_refl _
  · have hm := minD_mem (l := (firstT S most).map (vS srt S most)) (by simpa using e)
    obtain ⟨s, hs, hv⟩ := List.mem_map.mp hm
    rw [← hv]
    obtain ⟨p, hp, rfl⟩ := List.mem_map.mp ((hk s).mpr (c.r.first s hs))
    have h1 := rows_low c hn hk h S.looks.length p hp (by omega)
    exact Int.le_trans (minD_le (List.mem_map.mpr ⟨p, List.mem_filter.mpr ⟨hp, decide_eq_true (firstT_ok hs).2⟩, rfl⟩)) h1
theorem least_up (c : MCtx srt S most R R2) {rows : Num} (hn : (rows.map (·.1)).Nodup) (hk : ∀ s, s ∈ rows.map (·.1) ↔ s ∈ R) (h : UpT srt S most rows) : minD ((firstT S most).map (vS srt S most)) ≤ least0 rows := by
  unfold least0
  by_cases e : (rows.filter fun p => decide (p.1.look = 0)).map (·.2) = []
  · have : firstT S most = [] := List.eq_nil_iff_forall_not_mem.mpr fun s hs => by
      obtain ⟨p, hp, rfl⟩ := List.mem_map.mp ((hk s).mpr (c.r.first s hs))
      have : p.2 ∈ (rows.filter fun p => decide (p.1.look = 0)).map (·.2) := List.mem_map.mpr ⟨p, List.mem_filter.mpr ⟨hp, decide_eq_true (firstT_ok hs).2⟩, rfl⟩
      rw [e] at this
      cases this
    rw [this, e]
    exact Int.le_refl _
  · obtain ⟨p, hp, hv⟩ := List.mem_map.mp (minD_mem e)
    rw [← hv]
    obtain ⟨h1, h2⟩ := List.mem_filter.mp hp
    have h3 := rows_up c hn hk h S.looks.length p h1 (by omega)
    have h4 := c.r.look0 p.1 ((hk p.1).mp (List.mem_map.mpr ⟨p, h1, rfl⟩)) (of_decide_eq_true h2)
    exact Int.le_trans (minD_le (List.mem_map.mpr ⟨p.1, h4, rfl⟩)) h3
end
end Sk
/-! SkPure16: the draws, the sky -/
namespace Sk
open PySem
theorem mod_rng (a : Int) {b : Int} (h : 0 < b) : 0 ≤ a % b ∧ a % b < b := ⟨Int.emod_nonneg a (by omega), Int.emod_lt_of_pos a h⟩
theorem oMod_pos (a : Int) {b : Int} (h : 0 < b) : oMod (.int a) (.int b) = some (.int (a % b)) := if_pos h
theorem oMul_r (a b : Int) (h1 : -100000 < b) (h2 : b < 100000) : oMul (.int a) (.int b) = some (.int (a * b)) := by
  unfold oMul
  exact if_pos (.inr ⟨by omega, by omega⟩)
theorem oDiv_pos (a : Int) {b : Int} (h : 0 < b) (h2 : b < 1073741824) : oDiv (.int a) (.int b) = some (.int (a / b)) := if_pos ⟨h, h2⟩
def Rng (ds : List Int) : Prop := ∀ d ∈ ds, 0 ≤ d ∧ d < 1000
theorem r_law_draws (ns : List Int) (hn : ns.length ≤ 63) : ∃ ds : List Int, s_law_draws [.list (ns.map .int), .int 90] = some (.list (ds.map .int)) ∧ ds.length = 90 ∧ Rng ds := by
  have hLim : LIM = 16777216 := rfl
  suffices H : ∃ r, b_law_draws [.im (.list (ns.map .int)), .im (.int 90), .no, .no, .no, .no, .no, .no, .no] = some r ∧ ∃ ds : List Int, r = .rt (.list (ds.map .int)) ∧ ds.length = 90 ∧ Rng ds by
    obtain ⟨r, h1, ds, rfl, h2, h3⟩ := H
    exact ⟨ds, ev_run rfl h1, h2, h3⟩
  unfold b_law_draws
  have hcopy : eLc (iL (eV 0)) (.n 8) tTrue (eV 8) (vI [.im (.list (ns.map .int)), .im (.int 90), .no, .no, .no, .no, .no, .no, .no]) = some (.list (ns.map .int)) :=
    ev_lcA (enc := PyData.int) .int (ev_iL rfl) (by omega) fun n _ => ⟨_, rfl, rfl, rfl⟩
  have key : Runs (sFor (iR (eV 1)) (.n 4)
    (sSeq (sAsgF 5 (eC (.int 0))) (sSeq (sIf (tC cGt (eF fLen (aCons (eV 2) aNil)) (eC (.int 0)))
    (sSeq (sAsgF 6 (eB oMod (eF fInt (aCons (eV 4) aNil)) (eF fLen (aCons (eV 2) aNil)))) (sIf (tC cGe (eB oIx (eV 2) (eV 6)) (eB oPow (eC (.int 10)) (eC (.int 18))))
    (sSeq (sAsgF 5 (eB oMod (eF fInt (aCons (eB oIx (eV 2) (eV 6)) aNil)) (eC (.int 1000)))) (sStL 2 (eV 6) (eB oDiv (eB oIx (eV 2) (eV 6)) (eC (.int 1000)))))
    (sSeq (sAsgF 7 (eB oMod (eF fInt (aCons (eB oAdd (eB oAdd (eB oMul (eB oIx (eV 2) (eV 6)) (eC (.int 48271))) (eB oMul (eV 4) (eC (.int 69621)))) (eC (.int 11))) aNil)) (eC (.int 2147483647)))) (sSeq (sAsgF 7 (eB oMod (eF fInt (aCons (eB oAdd (eB oMul (eV 7) (eC (.int 16807))) (eV 6)) aNil)) (eC (.int 2147483629)))) (sAsgF 5 (eB oMod (eF fInt (aCons (eB oDiv (eV 7) (eC (.int 7))) aNil)) (eC (.int 1000))))))))
    sNil) (sApp 3 (eV 5)))))
    [.im (.list (ns.map .int)), .im (.int 90), .mu (.list (ns.map .int)), .mu (.list []), .no, .no, .no, .no, .no]
    (fun g => ∃ (ms ds : List Int) (j4 j5 j6 j7 : Sl), g = [.im (.list (ns.map .int)), .im (.int 90), .mu (.list (ms.map .int)), .mu (.list (ds.map .int)), j4, j5, j6, j7, .no] ∧ ds.length = 90 ∧ Rng ds) := by
    refine runs_for (enc := eN) (xs := List.range 90) (fun done g => ∃ (ms ds : List Int) (j4 j5 j6 j7 : Sl), g = [.im (.list (ns.map .int)), .im (.int 90), .mu (.list (ms.map .int)), .mu (.list (ds.map .int)), j4, j5, j6, j7, .no] ∧ ms.length = ns.length ∧ ds.length = done.length ∧ Rng ds)
      (ev_iRz (n := 90) rfl (by decide) (by decide)) ⟨ns, [], _, _, _, _, rfl, rfl, rfl, fun d h => by cases h⟩ (fun done k rest hd g ⟨ms, ds, j4, j5, j6, j7, hg, hm, hdl, hr⟩ => ?_) fun g ⟨ms, ds, j4, j5, j6, j7, hg, hm, hdl, hr⟩ => ⟨ms, ds, j4, j5, j6, j7, hg, by rw [hdl, List.length_range], hr⟩
    subst hg
    have hd90 : done.length < 90 := by
      have := congrArg List.length hd
      rw [List.length_range, List.length_append, List.length_cons] at this
      omega
    refine ⟨_, rfl, ?_⟩
    refine runs_seq (P := fun g => g = [.im (.list (ns.map .int)), .im (.int 90), .mu (.list (ms.map .int)), .mu (.list (ds.map .int)), .im (eN k), .im (.int 0), j6, j7, .no]) ⟨_, rfl, rfl⟩ fun g hg => ?_
    subst hg
    refine runs_seq (P := fun g => ∃ (ms' : List Int) (v : Int) (j6 j7 : Sl), g = [.im (.list (ns.map .int)), .im (.int 90), .mu (.list (ms'.map .int)), .mu (.list (ds.map .int)), .im (eN k), .im (.int v), j6, j7, .no] ∧ ms'.length = ns.length ∧ 0 ≤ v ∧ v < 1000) ?_ fun g ⟨ms', v, k6, k7, hg, h1, h2, h3⟩ => ?_
    · refine runs_if (k := decide ((0 : Int) < (ms.length : Int))) (ev_tC (ev_F (ev_cons rfl rfl) (fLen_map _ ms)) rfl rfl) (fun hk => ?_) fun hk => ⟨_, rfl, ms, 0, _, _, rfl, hm, by decide, by decide⟩
      have hpos : 0 < ms.length := by have := of_decide_eq_true hk; omega
      have hat : k % ms.length < ms.length := Nat.mod_lt _ hpos
      have hix : oIx (.list (ms.map .int)) (.int ((k % ms.length : Nat) : Int)) = some (.int (ms.getD (k % ms.length) 0)) := atD_map (f := PyData.int) (getD_of 0 hat)
      have hmod : oMod (.int (k : Int)) (.int (ms.length : Int)) = some (.int ((k % ms.length : Nat) : Int)) := oMod_pos (k : Int) (by omega)
      refine runs_seq (P := fun g => g = [.im (.list (ns.map .int)), .im (.int 90), .mu (.list (ms.map .int)), .mu (.list (ds.map .int)), .im (eN k), .im (.int 0), .im (eN (k % ms.length)), j7, .no]) ⟨_, ev_asgF (ev_B (ev_F (ev_cons rfl rfl) rfl) (ev_F (ev_cons rfl rfl) (fLen_map _ ms)) hmod) rfl, rfl⟩ fun g hg => ?_
      subst hg
      generalize hM : ms.getD (k % ms.length) 0 = m at hix
      have hpow : oPow (.int 10) (.int 18) = some (.int (10 ^ (18 : Int).toNat)) := by
        unfold oPow
        exact if_pos ⟨by decide, by decide, by decide⟩
      refine runs_if (k := decide ((10 : Int) ^ (18 : Int).toNat ≤ m)) (ev_tC (ev_B rfl rfl hix) (ev_B rfl rfl hpow) rfl) (fun _ => ?_) fun _ => ?_
      · have r1 := mod_rng m (b := 1000) (by decide)
        have hst : sStL 2 (eV 6) (eB oDiv (eB oIx (eV 2) (eV 6)) (eC (.int 1000))) [.im (.list (ns.map .int)), .im (.int 90), .mu (.list (ms.map .int)), .mu (.list (ds.map .int)), .im (eN k), .im (.int (m % 1000)), .im (eN (k % ms.length)), j7, .no]
            = some (.nx [.im (.list (ns.map .int)), .im (.int 90), .mu (.list ((ms.set (k % ms.length) (m / 1000)).map .int)), .mu (.list (ds.map .int)), .im (eN k), .im (.int (m % 1000)), .im (eN (k % ms.length)), j7, .no]) := by
          unfold sStL
          show ((eB oDiv _ _ _).bind _) = _
          rw [ev_B (ev_B rfl rfl hix) rfl (oDiv_pos m (b := 1000) (by decide) (by decide)), Option.bind_some]
          show ((ixN (ms.map PyData.int).length ((k % ms.length : Nat) : Int)).bind _) = _
          have hixn : ixN (ms.map PyData.int).length ((k % ms.length : Nat) : Int) = some (k % ms.length) := by
            unfold ixN
            rw [List.length_map, if_pos ⟨Int.natCast_nonneg _, by omega⟩]
            rfl
          rw [hixn, Option.bind_some, List.map_set]
          rfl
        exact ⟨_, ev_seq (ev_asgF (ev_B (ev_F (ev_cons (ev_B rfl rfl hix) rfl) rfl) rfl (oMod_pos m (by decide))) rfl) hst, _, _, _, _, rfl, by rw [List.length_set]; exact hm, r1.1, r1.2⟩
      · have r2 := mod_rng (((m * 48271 + (k : Int) * 69621 + 11) % 2147483647 * 16807 + ((k % ms.length : Nat) : Int)) % 2147483629 / 7) (b := 1000) (by decide)
        exact ⟨_, ev_seq (ev_asgF (ev_B (ev_F (ev_cons (ev_B (ev_B (ev_B (ev_B rfl rfl hix) rfl (oMul_r m 48271 (by decide) (by decide))) (ev_B rfl rfl (oMul_r (k : Int) 69621 (by decide) (by decide))) rfl) rfl rfl) rfl) rfl) rfl (oMod_pos _ (by decide))) rfl)
          (ev_seq (ev_asgF (ev_B (ev_F (ev_cons (ev_B (ev_B rfl rfl (oMul_r _ 16807 (by decide) (by decide))) rfl rfl) rfl) rfl) rfl (oMod_pos _ (by decide))) rfl)
            (ev_asgF (ev_B (ev_F (ev_cons (ev_B rfl rfl (oDiv_pos _ (b := 7) (by decide) (by decide))) rfl) rfl) rfl (oMod_pos _ (by decide))) rfl)), ms, _, _, _, rfl, hm, r2.1, r2.2⟩
    · subst hg
      refine ⟨_, ev_app1 rfl rfl (by rw [List.length_map, hdl]; omega) rfl, ms', ds ++ [v], .im (eN k), .im (.int v), k6, k7, ?_, h1, ?_, fun d hd' => ?_⟩
      · rw [List.map_append]; rfl
      · rw [List.length_append, List.length_append, hdl]; rfl
      · rcases List.mem_append.mp hd' with q | q
        · exact hr d q
        · rw [List.mem_singleton.mp q]; exact ⟨h2, h3⟩
  obtain ⟨g, k1, ms, ds, j4, j5, j6, j7, rfl, k2, k3⟩ := key
  exact ⟨_, ev_seq (ev_new hcopy) (ev_seq (ev_new rfl) (ev_seq k1 (ev_ret rfl))), ds, rfl, k2, k3⟩
/-! ### the sky -/
def drI (ds : List Int) (i : Nat) : Int := ds.getD i 0
theorem dr_at {ds : List Int} (h : ds.length = 90) {i : Nat} (hi : i < 90) {x : Int} (e : x = i) : oIx (.list (ds.map .int)) (.int x) = some (.int (drI ds i)) := atD_int e (by rw [List.getElem?_map, getD_of 0 (by omega)]; rfl)
/-- the ears so far -/
structure EarsI (es : List Ear) (since : Int) : Prop where
  rng : ∀ e ∈ es, 0 ≤ e.1 ∧ e.1 < e.2.1 ∧ e.2.1 ≤ since ∧ 1 ≤ e.2.2 ∧ e.2.2 ≤ 4
  up : es.Pairwise fun a b => a.1 < b.1
  s0 : 0 ≤ since
theorem EarsI.snoc {es : List Ear} {since : Int} (h : EarsI es since) {e : Ear} (h1 : since ≤ e.1) (h2 : e.1 < e.2.1) (h3 : 1 ≤ e.2.2) (h4 : e.2.2 ≤ 4) : EarsI (es ++ [e]) e.2.1 := by
  have s0 := h.s0
  refine ⟨fun x hx => ?_, List.pairwise_append.mpr ⟨h.up, List.pairwise_singleton .., fun a ha b hb => ?_⟩, by omega⟩
  · rcases List.mem_append.mp hx with q | q
    · have := h.rng x q
      exact ⟨this.1, this.2.1, by omega, this.2.2.2⟩
    · rw [List.mem_singleton.mp q]
      exact ⟨by omega, h2, Int.le_refl _, h3, h4⟩
  · rw [List.mem_singleton.mp hb]
    have := h.rng a ha
    omega
structure LooksI (wishes : Int) (ls : List Look) (start : Int) : Prop where
  rng : ∀ l ∈ ls, (0 ≤ l.w ∧ l.w < wishes) ∧ (0 ≤ l.st ∧ l.st ≤ start) ∧ (1 ≤ l.ln ∧ l.ln ≤ 3) ∧ (-30 ≤ l.an ∧ l.an ≤ 30) ∧ 1 ≤ l.sz
  up : ls.Pairwise fun a b => a.st ≤ b.st
  s0 : 0 ≤ start
theorem LooksI.snoc {wishes start : Int} {ls : List Look} (h : LooksI wishes ls start) {l : Look} (h1 : 0 ≤ l.w ∧ l.w < wishes) (h2 : start ≤ l.st) (h3 : 1 ≤ l.ln ∧ l.ln ≤ 3) (h4 : -30 ≤ l.an ∧ l.an ≤ 30) (h5 : 1 ≤ l.sz) : LooksI wishes (ls ++ [l]) l.st := by
  have s0 := h.s0
  refine ⟨fun x hx => ?_, List.pairwise_append.mpr ⟨h.up, List.pairwise_singleton .., fun a ha b hb => ?_⟩, by omega⟩
  · rcases List.mem_append.mp hx with q | q
    · have := h.rng x q
      exact ⟨this.1, ⟨this.2.1.1, by omega⟩, this.2.2⟩
    · rw [List.mem_singleton.mp q]
      exact ⟨h1, ⟨by omega, Int.le_refl _⟩, h3, h4, h5⟩
  · rw [List.mem_singleton.mp hb]
    have := (h.rng a ha).2.1
    omega
/-- a sky as the law makes it -/
structure SkyI (S : Sky) (n : Nat) : Prop where
  ears : ∃ since, EarsI S.ears since
  earsN : S.ears.length ≤ n
  looks : ∃ start, LooksI S.worths.length S.looks start ∧ start ≤ 100
  looksN : S.looks.length ≤ 5
  t0 : 0 < S.turn
  t1 : S.turn ≤ 30
theorem pair_get {α : Type} {R : α → α → Prop} {l : List α} (h : l.Pairwise R) (d : α) {i j : Nat} (hij : i < j) (hj : j < l.length) : R (l.getD i d) (l.getD j d) := by
  have := List.pairwise_iff_getElem.mp h i j (by omega) hj hij
  rw [List.getD_eq_getElem?_getD, List.getD_eq_getElem?_getD, List.getElem?_eq_getElem (by omega), List.getElem?_eq_getElem hj]
  exact this
theorem sky_ok {S : Sky} (h : SkyI S 3) : SkyOk S ∧ SkyW S := by
  obtain ⟨since, he⟩ := h.ears
  obtain ⟨start, hl, hs⟩ := h.looks
  refine ⟨⟨fun e q => by have := (he.rng e q).2.2.2; omega, h.earsN, h.looksN, h.t0, by have := h.t1; omega, fun l q => by have := (hl.rng l q).1; omega⟩, ⟨fun l q => by have := (hl.rng l q).2.1; omega, fun l q => by have := (hl.rng l q).2.2.1; omega, fun l q => by have := (hl.rng l q).2.2.2.2; omega, fun l q => (hl.rng l q).2.2.2.1, fun i j hij hj => ?_, fun e q => (he.rng e q).1, fun i j hij hj => pair_get he.up e0 hij hj⟩⟩
  by_cases e : i = j
  · rw [e]; exact Int.le_refl _
  · exact pair_get hl.up l0 (by omega) hj
end Sk
/-! SkPure17: the law's sky -/
namespace Sk
open PySem
theorem ev_Vat {r : Rho} {i : Nat} {d : D} (h : r[i]? = some (some d)) : eV i r = some d := by unfold eV; rw [h]; rfl
theorem ev_dr {ds : List Int} (hds : ds.length = 90) {r : Rho} {k : Nat} (h0 : r[0]? = some (some (.list (ds.map .int)))) (h3 : r[3]? = some (some (eN k))) (c m : Int) (i : Nat) (e : c + m * (k : Int) = (i : Int)) (hi : i < 90) (hm0 : -1000 < m) (hm : m < 1000) :
    eF fInt (aCons (eB oIx (eV 0) (eB oAdd (eC (.int c)) (eB oMul (eC (.int m)) (eV 3)))) aNil) r = some (.int (drI ds i)) :=
  ev_F (ev_cons (ev_B (ev_Vat h0) (ev_B rfl (ev_B rfl (ev_Vat h3) (mul_small m (k : Int) hm0 hm)) rfl) (dr_at hds hi e)) rfl) rfl
theorem ev_dc {ds : List Int} (hds : ds.length = 90) {r : Rho} (h0 : r[0]? = some (some (.list (ds.map .int)))) (c : Int) (i : Nat) (e : c = (i : Int)) (hi : i < 90) : eF fInt (aCons (eB oIx (eV 0) (eC (.int c))) aNil) r = some (.int (drI ds i)) :=
  ev_F (ev_cons (ev_B (ev_Vat h0) rfl (dr_at hds hi e)) rfl) rfl
theorem range_at {n : Nat} {done rest : List Nat} {k : Nat} (h : List.range n = done ++ k :: rest) : k = done.length ∧ k < n := by
  have e : (List.range n)[done.length]? = some k := by rw [h, List.getElem?_append_right (Nat.le_refl _), Nat.sub_self]; rfl
  obtain ⟨q1, q2⟩ := List.getElem?_eq_some_iff.mp e
  rw [List.getElem_range] at q2
  rw [List.length_range] at q1
  exact ⟨q2.symm, by rw [← q2]; exact q1⟩
theorem r_law_sky {ds : List Int} (hds : ds.length = 90) : ∃ S : Sky, s_law_sky [.list (ds.map .int), .int 5] = some (eSky S) ∧ SkyI S 2 := by
  have hLim : LIM = 16777216 := rfl
  have m4 := mod_rng (drI ds 0) (b := 4) (by decide)
  have m3 := mod_rng (drI ds 9) (b := 3) (by decide)
  have m6 := mod_rng (drI ds 16) (b := 6) (by decide)
  have m7 := mod_rng (drI ds 7) (b := 7) (by decide)
  have m30 := mod_rng (drI ds 8) (b := 30) (by decide)
  generalize hW : 1 + drI ds 0 % 4 = W
  have hW0 : 1 ≤ W ∧ W ≤ 4 := by omega
  suffices H : ∃ r, b_law_sky [.im (.list (ds.map .int)), .im (.int 5), .no, .no, .no, .no, .no, .no, .no, .no, .no] = some r ∧ ∃ S : Sky, r = .rt (eSky S) ∧ SkyI S 2 by
    obtain ⟨r, h1, S, rfl, h2⟩ := H
    exact ⟨S, ev_run rfl h1, h2⟩
  unfold b_law_sky
  have hw : sAsg (.n 2) (eB oAdd (eC (.int 1)) (eB oMod (eF fInt (aCons (eB oIx (eV 0) (eC (.int 0))) aNil)) (eC (.int 4)))) [.im (.list (ds.map .int)), .im (.int 5), .no, .no, .no, .no, .no, .no, .no, .no, .no] = some (.nx [.im (.list (ds.map .int)), .im (.int 5), .im (.int W), .no, .no, .no, .no, .no, .no, .no, .no]) := by
    rw [← hW]
    exact ev_asg (ev_B rfl (ev_B (ev_dc hds rfl 0 0 rfl (by decide)) rfl (oMod_pos _ (by decide))) rfl) rfl
  have hworths : eLc (iR (eV 2)) (.n 3) tTrue (eB oMod (eF fInt (aCons (eB oIx (eV 0) (eB oAdd (eC (.int 1)) (eV 3))) aNil)) (eC (.int 10))) (vI [.im (.list (ds.map .int)), .im (.int 5), .im (.int W), .no, .no, .no, .no, .no, .no, .no, .no])
      = some (.list (((List.range W.toNat).map fun k => drI ds (1 + k) % 10).map .int)) := by
    have := ev_lcA (enc := eN) (src := iR (eV 2)) (tg := .n 3) (el := eB oMod (eF fInt (aCons (eB oIx (eV 0) (eB oAdd (eC (.int 1)) (eV 3))) aNil)) (eC (.int 10))) (r := vI [.im (.list (ds.map .int)), .im (.int 5), .im (.int W), .no, .no, .no, .no, .no, .no, .no, .no]) (fun k => .int (drI ds (1 + k) % 10)) (xs := List.range W.toNat)
      (ev_iRz (n := W) rfl (by omega) (by omega)) (by rw [List.length_range]; omega) fun k hk => by
        have hk := List.mem_range.mp hk
        exact ⟨_, rfl, ev_B (ev_F (ev_cons (ev_B rfl (ev_B rfl rfl rfl) (dr_at hds (i := 1 + k) (by omega) (by omega))) rfl) rfl) rfl (oMod_pos _ (by decide)), rfl⟩
    rw [this, List.map_map]
    rfl
  generalize hws : (List.range W.toNat).map (fun k => drI ds (1 + k) % 10) = ws at hworths
  have hwl : (ws.length : Int) = W := by rw [← hws, List.length_map, List.length_range]; omega
  -- the ears
  have ears : Runs (sFor (iR (eB oMod (eF fInt (aCons (eB oIx (eV 0) (eC (.int 9))) aNil)) (eC (.int 3)))) (.n 3)
    (sSeq (sAsg (.n 7) (eB oAdd (eV 6) (eB oMod (eF fInt (aCons (eB oIx (eV 0) (eB oAdd (eC (.int 10)) (eB oMul (eC (.int 3)) (eV 3)))) aNil)) (eC (.int 6))))) (sSeq (sAsg (.n 6) (eB oAdd (eB oAdd (eV 7) (eC (.int 1))) (eB oMod (eF fInt (aCons (eB oIx (eV 0) (eB oAdd (eC (.int 11)) (eB oMul (eC (.int 3)) (eV 3)))) aNil)) (eC (.int 5))))) (sApp 5 (eTup (aCons (eV 7) (aCons (eV 6) (aCons (eB oAdd (eC (.int 1)) (eB oMod (eF fInt (aCons (eB oIx (eV 0) (eB oAdd (eC (.int 12)) (eB oMul (eC (.int 3)) (eV 3)))) aNil)) (eC (.int 3)))) aNil))))))))
    [.im (.list (ds.map .int)), .im (.int 5), .im (.int W), .no, .im (.list (ws.map .int)), .mu (.list []), .im (.int 0), .no, .no, .no, .no]
    (fun g => ∃ (es : List Ear) (since : Int) (j3 j7 : Sl), g = [.im (.list (ds.map .int)), .im (.int 5), .im (.int W), j3, .im (.list (ws.map .int)), .mu (.list (es.map eEar)), .im (.int since), j7, .no, .no, .no] ∧ EarsI es since ∧ es.length ≤ 2) := by
    refine runs_for (enc := eN) (xs := List.range (drI ds 9 % 3).toNat) (fun done g => ∃ (es : List Ear) (since : Int) (j3 j7 : Sl), g = [.im (.list (ds.map .int)), .im (.int 5), .im (.int W), j3, .im (.list (ws.map .int)), .mu (.list (es.map eEar)), .im (.int since), j7, .no, .no, .no] ∧ EarsI es since ∧ es.length = done.length)
      (ev_iRz (ev_B (ev_dc hds rfl 9 9 rfl (by decide)) rfl (oMod_pos _ (by decide))) m3.1 (by omega)) ⟨[], 0, .no, .no, rfl, ⟨fun e h => (by cases h), List.Pairwise.nil, Int.le_refl 0⟩, rfl⟩ (fun done k rest hd g ⟨es, since, j3, j7, hg, hE, hl⟩ => ?_) fun g ⟨es, since, j3, j7, hg, hE, hl⟩ => ⟨es, since, j3, j7, hg, hE, by rw [hl, List.length_range]; omega⟩
    subst hg
    obtain ⟨hk1, hk2⟩ := range_at hd
    have hk3 : k < 3 := by omega
    have q6 := mod_rng (drI ds (10 + 3 * k)) (b := 6) (by decide)
    have q5 := mod_rng (drI ds (11 + 3 * k)) (b := 5) (by decide)
    have q3 := mod_rng (drI ds (12 + 3 * k)) (b := 3) (by decide)
    refine ⟨_, rfl, ?_⟩
    apply runs_of
    · exact ev_seq (ev_asg (ev_B rfl (ev_B (ev_dr hds (k := k) rfl rfl 10 3 (10 + 3 * k) (by omega) (by omega) (by decide) (by decide)) rfl (oMod_pos _ (by decide))) rfl) rfl)
        (ev_seq (ev_asg (ev_B (ev_B rfl rfl rfl) (ev_B (ev_dr hds (k := k) rfl rfl 11 3 (11 + 3 * k) (by omega) (by omega) (by decide) (by decide)) rfl (oMod_pos _ (by decide))) rfl) rfl)
          (ev_app1 rfl (ev_tup (ev_cons rfl (ev_cons rfl (ev_cons (ev_B rfl (ev_B (ev_dr hds (k := k) rfl rfl 12 3 (12 + 3 * k) (by omega) (by omega) (by decide) (by decide)) rfl (oMod_pos _ (by decide))) rfl) rfl)))) (by rw [List.length_map]; omega) rfl))
    · refine ⟨es ++ [(since + drI ds (10 + 3 * k) % 6, since + drI ds (10 + 3 * k) % 6 + 1 + drI ds (11 + 3 * k) % 5, 1 + drI ds (12 + 3 * k) % 3)], since + drI ds (10 + 3 * k) % 6 + 1 + drI ds (11 + 3 * k) % 5, .im (eN k), .im (.int (since + drI ds (10 + 3 * k) % 6)), ?_, hE.snoc ?_ ?_ ?_ ?_, ?_⟩
      · rw [List.map_append]; rfl
      · show since ≤ since + drI ds (10 + 3 * k) % 6
        omega
      · show since + drI ds (10 + 3 * k) % 6 < since + drI ds (10 + 3 * k) % 6 + 1 + drI ds (11 + 3 * k) % 5
        omega
      · show 1 ≤ 1 + drI ds (12 + 3 * k) % 3
        omega
      · show 1 + drI ds (12 + 3 * k) % 3 ≤ 4
        omega
      · rw [List.length_append, List.length_append, hl]; rfl
  obtain ⟨g1, e1, es, since, j3, j7, rfl, hE, hEl⟩ := ears
  have looks : Runs (sFor (iR (eB oMod (eF fInt (aCons (eB oIx (eV 0) (eC (.int 16))) aNil)) (eB oAdd (eV 1) (eC (.int 1))))) (.n 3)
    (sSeq (sAsg (.n 9) (eB oAdd (eV 9) (eB oMod (eF fInt (aCons (eB oIx (eV 0) (eB oAdd (eC (.int 20)) (eB oMul (eC (.int 5)) (eV 3)))) aNil)) (eC (.int 4))))) (sSeq (sAsg (.n 10) (eB oSub (eB oMod (eF fInt (aCons (eB oIx (eV 0) (eB oAdd (eC (.int 23)) (eB oMul (eC (.int 5)) (eV 3)))) aNil)) (eC (.int 61))) (eC (.int 30)))) (sApp 8 (eTup (aCons (eB oMod (eF fInt (aCons (eB oIx (eV 0) (eB oAdd (eC (.int 21)) (eB oMul (eC (.int 5)) (eV 3)))) aNil)) (eV 2)) (aCons (eV 9) (aCons (eB oAdd (eC (.int 1)) (eB oMod (eF fInt (aCons (eB oIx (eV 0) (eB oAdd (eC (.int 22)) (eB oMul (eC (.int 5)) (eV 3)))) aNil)) (eC (.int 3)))) (aCons (eV 10) (aCons (eB oAdd (eC (.int 1)) (eB oMod (eF fInt (aCons (eB oIx (eV 0) (eB oAdd (eC (.int 24)) (eB oMul (eC (.int 5)) (eV 3)))) aNil)) (eC (.int 4)))) aNil))))))))))
    [.im (.list (ds.map .int)), .im (.int 5), .im (.int W), j3, .im (.list (ws.map .int)), .mu (.list (es.map eEar)), .im (.int since), j7, .mu (.list []), .im (.int 0), .no]
    (fun g => ∃ (ls : List Look) (start : Int) (j3 j10 : Sl), g = [.im (.list (ds.map .int)), .im (.int 5), .im (.int W), j3, .im (.list (ws.map .int)), .mu (.list (es.map eEar)), .im (.int since), j7, .mu (.list (ls.map eLook)), .im (.int start), j10] ∧ LooksI W ls start ∧ ls.length ≤ 5 ∧ start ≤ 100) := by
    refine runs_for (enc := eN) (xs := List.range (drI ds 16 % 6).toNat) (fun done g => ∃ (ls : List Look) (start : Int) (j3 j10 : Sl), g = [.im (.list (ds.map .int)), .im (.int 5), .im (.int W), j3, .im (.list (ws.map .int)), .mu (.list (es.map eEar)), .im (.int since), j7, .mu (.list (ls.map eLook)), .im (.int start), j10] ∧ LooksI W ls start ∧ ls.length = done.length ∧ start ≤ 3 * (done.length : Int))
      (ev_iRz (ev_B (ev_dc hds rfl 16 16 rfl (by decide)) (ev_B rfl rfl rfl) (oMod_pos _ (b := 5 + 1) (by decide))) m6.1 (by show (drI ds 16 % 6).toNat ≤ LIM; omega)) ⟨[], 0, j3, .no, rfl, ⟨fun e h => (by cases h), List.Pairwise.nil, Int.le_refl 0⟩, rfl, by decide⟩ (fun done k rest hd g ⟨ls, start, k3, j10, hg, hE, hl, hst⟩ => ?_) fun g ⟨ls, start, k3, j10, hg, hE, hl, hst⟩ => ⟨ls, start, k3, j10, hg, hE, by rw [hl, List.length_range]; omega, by rw [List.length_range] at hst; omega⟩
    subst hg
    obtain ⟨hk1, hk2⟩ := range_at hd
    have hk3 : k < 6 := by omega
    have q4 := mod_rng (drI ds (20 + 5 * k)) (b := 4) (by decide)
    have qw := mod_rng (drI ds (21 + 5 * k)) (b := W) (by omega)
    have q3 := mod_rng (drI ds (22 + 5 * k)) (b := 3) (by decide)
    have q61 := mod_rng (drI ds (23 + 5 * k)) (b := 61) (by decide)
    have qs := mod_rng (drI ds (24 + 5 * k)) (b := 4) (by decide)
    refine ⟨_, rfl, ?_⟩
    apply runs_of
    · exact ev_seq (ev_asg (ev_B rfl (ev_B (ev_dr hds (k := k) rfl rfl 20 5 (20 + 5 * k) (by omega) (by omega) (by decide) (by decide)) rfl (oMod_pos _ (by decide))) rfl) rfl)
        (ev_seq (ev_asg (ev_B (ev_B (ev_dr hds (k := k) rfl rfl 23 5 (23 + 5 * k) (by omega) (by omega) (by decide) (by decide)) rfl (oMod_pos _ (by decide))) rfl rfl) rfl)
          (ev_app1 rfl (ev_tup (ev_cons (ev_B (ev_dr hds (k := k) rfl rfl 21 5 (21 + 5 * k) (by omega) (by omega) (by decide) (by decide)) rfl (oMod_pos _ (by omega))) (ev_cons rfl (ev_cons (ev_B rfl (ev_B (ev_dr hds (k := k) rfl rfl 22 5 (22 + 5 * k) (by omega) (by omega) (by decide) (by decide)) rfl (oMod_pos _ (by decide))) rfl) (ev_cons rfl (ev_cons (ev_B rfl (ev_B (ev_dr hds (k := k) rfl rfl 24 5 (24 + 5 * k) (by omega) (by omega) (by decide) (by decide)) rfl (oMod_pos _ (by decide))) rfl) rfl)))))) (by rw [List.length_map]; omega) rfl))
    · refine ⟨ls ++ [⟨drI ds (21 + 5 * k) % W, start + drI ds (20 + 5 * k) % 4, 1 + drI ds (22 + 5 * k) % 3, drI ds (23 + 5 * k) % 61 - 30, 1 + drI ds (24 + 5 * k) % 4⟩], start + drI ds (20 + 5 * k) % 4, .im (eN k), .im (.int (drI ds (23 + 5 * k) % 61 - 30)), ?_, hE.snoc qw ?_ ?_ ?_ ?_, ?_, ?_⟩
      · rw [List.map_append]; rfl
      · show start ≤ start + drI ds (20 + 5 * k) % 4
        omega
      · show 1 ≤ 1 + drI ds (22 + 5 * k) % 3 ∧ 1 + drI ds (22 + 5 * k) % 3 ≤ 3
        omega
      · show -30 ≤ drI ds (23 + 5 * k) % 61 - 30 ∧ drI ds (23 + 5 * k) % 61 - 30 ≤ 30
        omega
      · show 1 ≤ 1 + drI ds (24 + 5 * k) % 4
        omega
      · rw [List.length_append, List.length_append, hl]; rfl
      · rw [List.length_append]
        show start + drI ds (20 + 5 * k) % 4 ≤ 3 * ((done.length + 1 : Nat) : Int)
        omega
  obtain ⟨g2, e2, ls, start, k3, j10, rfl, hLI, hLl, hst⟩ := looks
  refine ⟨_, ev_seq hw (ev_seq (ev_asg hworths rfl) (ev_seq (ev_new rfl) (ev_seq (ev_asg rfl rfl) (ev_seq e1 (ev_seq (ev_new rfl) (ev_seq (ev_asg rfl rfl) (ev_seq e2 (ev_ret (ev_tup (ev_cons rfl (ev_cons rfl (ev_cons rfl (ev_cons (ev_B rfl (ev_B (ev_dc hds rfl 7 7 rfl (by decide)) rfl (oMod_pos _ (by decide))) rfl) (ev_cons (ev_B rfl (ev_B (ev_dc hds rfl 8 8 rfl (by decide)) rfl (oMod_pos _ (by decide))) rfl) rfl)))))))))))))), ⟨ls, ws, es, 2 + drI ds 7 % 7, 1 + drI ds 8 % 30⟩, rfl, ⟨since, hE⟩, hEl, ⟨start, by rw [hwl]; exact hLI, hst⟩, hLl, by show 0 < 1 + drI ds 8 % 30; omega, by show 1 + drI ds 8 % 30 ≤ 30; omega⟩
theorem max_spec : ∀ (r : List Int) (x : Int), x ≤ r.foldl max x ∧ ∀ y ∈ r, y ≤ r.foldl max x
  | [], x => ⟨Int.le_refl x, fun y h => by cases h⟩
  | z :: r, x => by
    obtain ⟨h1, h2⟩ := max_spec r (max x z)
    rw [List.foldl_cons]
    refine ⟨Int.le_trans (Int.le_max_left x z) h1, fun y hy => ?_⟩
    rcases List.mem_cons.mp hy with rfl | hy
    · exact Int.le_trans (Int.le_max_right x y) h1
    · exact h2 y hy
theorem r_law_more_ears {S : Sky} (h : SkyI S 2) {cs : List Int} (hc : cs.length = 4) : ∃ S' : Sky, s_law_more_ears [eSky S, .list (cs.map .int)] = some (eSky S') ∧ SkyI S' 3 := by
  have hLim : LIM = 16777216 := rfl
  have hcat : ∀ i : Nat, i < 4 → oIx (.list (cs.map .int)) (.int (i : Int)) = some (.int (drI cs i)) := fun i hi => atD_map (f := PyData.int) (getD_of 0 (by omega))
  have c0 := hcat 0 (by decide)
  have c1 := hcat 1 (by decide)
  have c2 := hcat 2 (by decide)
  have c3 := hcat 3 (by decide)
  have ht := ev_tC (g := cEq) (a := eB oMod (eF fInt (aCons (eB oIx (eV 1) (eC (.int 0))) aNil)) (eC (.int 2))) (b := eC (.int 0)) (k := decide (drI cs 0 % 2 = 0)) (r := vA [.im (eSky S), .im (.list (cs.map .int)), .no, .no]) (ev_B (ev_F (ev_cons (ev_B rfl rfl c0) rfl) rfl) rfl (oMod_pos _ (by decide))) rfl rfl
  by_cases hz : drI cs 0 % 2 = 0
  · rw [decide_eq_true hz] at ht
    refine ⟨S, ?_, ⟨h.ears, by have := h.earsN; omega, h.looks, h.looksN, h.t0, h.t1⟩⟩
    refine ev_run rfl ?_; unfold b_law_more_ears; simp only [List.map_cons, List.map_nil, List.length_cons, List.length_nil, Nat.reduceAdd, Nat.reduceSub, List.replicate, List.cons_append, List.nil_append, Nat.zero_add, Nat.sub_self]
    exact ev_seqR (ev_ifT ht (ev_ret rfl))
  · rw [decide_eq_false hz] at ht
    obtain ⟨since, hE⟩ := h.ears
    have m5 := mod_rng (drI cs 1) (b := 5) (by decide)
    have m4 := mod_rng (drI cs 2) (b := 4) (by decide)
    have m4' := mod_rng (drI cs 3) (b := 4) (by decide)
    obtain ⟨x1, x2⟩ := max_spec (S.ears.map fun e => e.2.1) 0
    have hlast : eLc (iL (eB oIx (eV 0) (eC (.int 2)))) (.n 3) tTrue (eB oIx (eV 3) (eC (.int 1))) (vI [.im (eSky S), .im (.list (cs.map .int)), .no, .no]) = some (.list ((S.ears.map fun e => e.2.1).map .int)) := by
      have := ev_lcA (enc := eEar) (src := iL (eB oIx (eV 0) (eC (.int 2)))) (tg := .n 3) (el := eB oIx (eV 3) (eC (.int 1))) (r := vI [.im (eSky S), .im (.list (cs.map .int)), .no, .no]) (fun e => .int e.2.1) (xs := S.ears) (ev_iL (ev_B rfl rfl rfl)) (by have := h.earsN; omega) fun e _ => ⟨_, rfl, ev_B rfl rfl rfl, rfl⟩
      rw [this, List.map_map]
      rfl
    have hcatL : oCatL (.list [.int 0]) (.list ((S.ears.map fun e => e.2.1).map .int)) = some (.list ((0 :: S.ears.map fun e => e.2.1).map .int)) := if_pos (by rw [List.length_map, List.length_map]; have := h.earsN; show 1 + S.ears.length ≤ _; omega)
    have hmax : fMax [.list ((0 :: S.ears.map fun e => e.2.1).map .int)] = some (.int ((S.ears.map fun e => e.2.1).foldl max 0)) := by
      show (dInts _).bind _ = _
      rw [dInts_map]
      rfl
    generalize hB : (S.ears.map fun e => e.2.1).foldl max 0 = b at x1 x2 hmax
    have hE2 : EarsI S.ears (b + drI cs 1 % 5) := ⟨fun e he => by
      have q := hE.rng e he
      have q2 := x2 e.2.1 (List.mem_map.mpr ⟨e, he, rfl⟩)
      exact ⟨q.1, q.2.1, by omega, q.2.2.2⟩, hE.up, by omega⟩
    have hE3 := hE2.snoc (e := (b + drI cs 1 % 5, b + drI cs 1 % 5 + 1 + drI cs 2 % 4, 1 + drI cs 3 % 4)) (Int.le_refl _) (by show b + drI cs 1 % 5 < b + drI cs 1 % 5 + 1 + drI cs 2 % 4; omega) (by show 1 ≤ 1 + drI cs 3 % 4; omega) (by show 1 + drI cs 3 % 4 ≤ 4; omega)
    refine ⟨{ S with ears := S.ears ++ [(b + drI cs 1 % 5, b + drI cs 1 % 5 + 1 + drI cs 2 % 4, 1 + drI cs 3 % 4)] }, ?_, ⟨⟨_, hE3⟩, by show (S.ears ++ _).length ≤ 3; rw [List.length_append]; have := h.earsN; show S.ears.length + 1 ≤ 3; omega, h.looks, h.looksN, h.t0, h.t1⟩⟩
    have hcat2 : oCatL (.list (S.ears.map eEar)) (.list [.tuple [.int (b + drI cs 1 % 5), .int (b + drI cs 1 % 5 + 1 + drI cs 2 % 4), .int (1 + drI cs 3 % 4)]]) = some (.list ((S.ears ++ [(b + drI cs 1 % 5, b + drI cs 1 % 5 + 1 + drI cs 2 % 4, 1 + drI cs 3 % 4)]).map eEar)) := by
      rw [List.map_append]
      exact if_pos (by rw [List.length_map]; have := h.earsN; show S.ears.length + 1 ≤ _; omega)
    refine ev_run rfl ?_; unfold b_law_more_ears; simp only [List.map_cons, List.map_nil, List.length_cons, List.length_nil, Nat.reduceAdd, Nat.reduceSub, List.replicate, List.cons_append, List.nil_append, Nat.zero_add, Nat.sub_self]
    refine ev_seq (ev_ifF ht rfl) (ev_seq (ev_asg (ev_B (ev_F (ev_cons (ev_B (ev_lst (ev_cons rfl rfl)) hlast hcatL) rfl) hmax) (ev_B (ev_F (ev_cons (ev_B rfl rfl c1) rfl) rfl) rfl (oMod_pos _ (by decide))) rfl) rfl) (ev_ret ?_))
    show _ = some (PyData.tuple [_, _, .list ((S.ears ++ [(b + drI cs 1 % 5, b + drI cs 1 % 5 + 1 + drI cs 2 % 4, 1 + drI cs 3 % 4)]).map eEar), _, _])
    exact ev_tup (ev_cons (ev_B rfl rfl rfl) (ev_cons (ev_B rfl rfl rfl) (ev_cons (ev_B (ev_B rfl rfl rfl) (ev_lst (ev_cons (ev_tup (ev_cons rfl (ev_cons (ev_B (ev_B rfl rfl rfl) (ev_B (ev_F (ev_cons (ev_B rfl rfl c2) rfl) rfl) rfl (oMod_pos _ (by decide))) rfl) (ev_cons (ev_B rfl (ev_B (ev_F (ev_cons (ev_B rfl rfl c3) rfl) rfl) rfl (oMod_pos _ (by decide))) rfl) rfl)))) rfl)) hcat2) (ev_cons (ev_B rfl rfl rfl) (ev_cons (ev_B rfl rfl rfl) rfl)))))
end Sk
/-! SkPure18: the law -/
namespace Sk
open PySem
section
variable {srt : List D → List D}
theorem cNiD_st (s : St) (M : List St) : cNiD (eSt s) (.list (M.map eSt)) = some (!decide (s ∈ M)) := by
  have hp : (M.map eSt).all (plain 8) = true := List.all_eq_true.mpr fun d hd => by obtain ⟨x, _, rfl⟩ := List.mem_map.mp hd; exact plain_st x
  show (if (plain 8 (eSt s) && (M.map eSt).all (plain 8)) = true then some (!(M.map eSt).any fun y => deq 8 y (eSt s)) else none) = _
  rw [plain_st, hp, if_pos (show (true && true) = true from rfl)]
  have : ((M.map eSt).any fun y => deq 8 y (eSt s)) = decide (s ∈ M) := by
    rw [List.any_map]
    by_cases h : s ∈ M
    · rw [decide_eq_true h]
      exact List.any_eq_true.mpr ⟨s, h, by show deq 8 (eSt s) (eSt s) = true; rw [deq_st]; exact decide_eq_true rfl⟩
    · rw [decide_eq_false h]
      refine List.any_eq_false.mpr fun x hx => ?_
      show ¬ deq 8 (eSt x) (eSt s) = true
      rw [deq_st]
      intro e
      exact h (of_decide_eq_true e ▸ hx)
  rw [this]
theorem names_filter {S : Sky} {most : Int} {R F : List _} (L : Nat) : ∀ n, L ≤ n → (∀ m, ∀ p ∈ namesT srt S most R F m, p < m) → (namesT srt S most R F n).filter (fun p => decide (p < L)) = namesT srt S most R F L
  | 0, h, _ => by
    have : L = 0 := by omega
    subst this
    rfl
  | n + 1, h, hlt => by
    by_cases e : L = n + 1
    · subst e
      exact List.filter_eq_self.mpr fun p hp => decide_eq_true (hlt _ p hp)
    · have ih := names_filter (S := S) (most := most) (R := R) (F := F) L n (by omega) hlt
      show (takN (namesT srt S most R F n) n (tkB srt S most R F (namesT srt S most R F n) n)).filter _ = _
      unfold takN
      cases tkB srt S most R F (namesT srt S most R F n) n with
      | false => exact ih
      | true =>
        rw [if_pos rfl, List.filter_append, ih, List.filter_cons_of_neg (by simp; omega), List.filter_nil, List.append_nil]
/-- the slots of the law -/
abbrev gA (a0 a1 a2 a3 a4 a5 a6 a7 a8 : D) (j9 j10 j11 j12 j13 j14 j15 j16 j17 j18 j19 j20 : Sl) : Gam := [.im a0, .im a1, .im a2, .im a3, .im a4, .im a5, .im a6, .im a7, .mu a8, j9, j10, j11, j12, j13, j14, j15, j16, j17, j18, j19, j20, .no, .no]
variable {S : Sky} {most : Int} {R R2 : List St}
theorem names_lt (c : MCtx srt S most R R2) {F : List Nat} {n : Nat} (h : n ≤ S.looks.length) : ∀ p ∈ namesT srt S most R2 F n, p < n := (names_ok c.hs c.ok c.w n h).lt
theorem names_at (c : MCtx srt S most R R2) {F : List Nat} {L : Nat} : ∀ n, L ≤ n → n ≤ S.looks.length → (namesT srt S most R2 F n).filter (fun p => decide (p < L)) = namesT srt S most R2 F L
  | 0, h, _ => by
    have : L = 0 := by omega
    subst this
    rfl
  | n + 1, h, hn => by
    by_cases e : L = n + 1
    · subst e
      exact List.filter_eq_self.mpr fun p hp => decide_eq_true (names_lt c hn p hp)
    · have ih := names_at c (F := F) (L := L) n (by omega) (by omega)
      show (takN (namesT srt S most R2 F n) n (tkB srt S most R2 F (namesT srt S most R2 F n) n)).filter _ = _
      unfold takN
      cases tkB srt S most R2 F (namesT srt S most R2 F n) n with
      | false => exact ih
      | true =>
        rw [if_pos rfl, List.filter_append, ih, List.filter_cons_of_neg (by simp; omega), List.filter_nil, List.append_nil]
/-- the met states, gathered -/
theorem met_loop (c : MCtx srt S most R R2) (hR2 : R2.Nodup) (hR2l : R2.length ≤ 559240) {Fs : List (List Nat)} (hFs : ∀ F, F ∈ Fs ↔ FOkT S most F) {a0 a1 a4 a5 a7 : D} (hfa : s_law_failings srt [eSky S, .int most] = some (.list (Fs.map eNs))) :
    Runs (sFor (iL (eF (s_law_failings srt) (aCons (eV 2) (aCons (eV 3) aNil)))) (.n 9)
    (sSeq (sAsg (.n 10) (eF (s_law_taken srt) (aCons (eV 2) (aCons (eV 6) (aCons (eV 9) aNil))))) (sFor (iR (eF fLen (aCons (eB oIx (eV 2) (eC (.int 0))) aNil))) (.n 11)
    (sSeq (sAsg (.n 13) (eF fTuple (aCons (eLc (iT (eV 9)) (.n 12) (tC cLe (eB oIx (eB oIx (eB oIx (eV 2) (eC (.int 2))) (eV 12)) (eC (.int 0))) (eB oIx (eB oIx (eB oIx (eV 2) (eC (.int 0))) (eV 11)) (eC (.int 1)))) (eV 12)) aNil))) (sSeq (sAsg (.n 14) (eF (s_law_state srt) (aCons (eV 2) (aCons (eLc (iL (eV 10)) (.n 22) (tC cLt (eV 22) (eV 11)) (eV 22)) (aCons (eV 11) (aCons (eV 13) aNil)))))) (sIf (tC cNiD (eV 14) (eV 8))
    (sApp 8 (eV 14))
    sNil))))))
    (gA a0 a1 (eSky S) (.int most) a4 a5 (.list (R2.map (eRl srt S most))) a7 (.list []) .no .no .no .no .no .no .no .no .no .no .no .no)
    (fun g => ∃ (M : List St) (j9 j10 j11 j13 j14 : Sl), g = gA a0 a1 (eSky S) (.int most) a4 a5 (.list (R2.map (eRl srt S most))) a7 (.list (M.map eSt)) j9 j10 j11 .no j13 j14 .no .no .no .no .no .no ∧ M.Nodup ∧ IsMet srt S most R2 M) := by
  have hLim : LIM = 16777216 := rfl
  have h5 := c.ok.looksN
  have h3 := c.ok.earsN
  have hlen := fLen_map eLook S.looks
  refine runs_for (enc := eNs) (xs := Fs) (fun done g => ∃ (M : List St) (j9 j10 j11 j13 j14 : Sl), g = gA a0 a1 (eSky S) (.int most) a4 a5 (.list (R2.map (eRl srt S most))) a7 (.list (M.map eSt)) j9 j10 j11 .no j13 j14 .no .no .no .no .no .no ∧ M.Nodup ∧ ∀ s, s ∈ M ↔ ∃ F ∈ done, ∃ L, L < S.looks.length ∧ s = metS srt S most R2 F L)
    (ev_iL (ev_F (ev_cons rfl (ev_cons rfl rfl)) hfa)) ⟨[], _, _, _, _, _, rfl, List.nodup_nil, fun s => ⟨fun h => (by cases h), fun ⟨F, h, _⟩ => (by cases h)⟩⟩ (fun done F rest hd g ⟨M, j9, j10, j11, j13, j14, hg, hM, hI⟩ => ?_) fun g ⟨M, j9, j10, j11, j13, j14, hg, hM, hI⟩ => ⟨M, j9, j10, j11, j13, j14, hg, hM, fun s => (hI s).trans ⟨fun ⟨F, h1, h2⟩ => ⟨F, (hFs F).mp h1, h2⟩, fun ⟨F, h1, h2⟩ => ⟨F, (hFs F).mpr h1, h2⟩⟩⟩
  subst hg
  refine ⟨_, rfl, ?_⟩
  have hFok : FOkT S most F := (hFs F).mp (by rw [hd]; simp)
  have hFlt : ∀ k ∈ F, k < S.ears.length := fun k hk => List.mem_range.mp (hFok.sub.subset hk)
  have hFl : F.length ≤ 10 := by have := hFok.sub.length_le; rw [List.length_range] at this; omega
  have htaken := r_law_taken c.hs c.ok c.w (most := most) hR2 hR2l hFlt hFl
  have hnl : (namesT srt S most R2 F S.looks.length).length ≤ S.looks.length := (names_ok c.hs c.ok c.w S.looks.length (Nat.le_refl _)).len
  refine runs_seq (P := fun g => g = gA a0 a1 (eSky S) (.int most) a4 a5 (.list (R2.map (eRl srt S most))) a7 (.list (M.map eSt)) (.im (eNs F)) (.im (.list ((namesT srt S most R2 F S.looks.length).map eN))) j11 .no j13 j14 .no .no .no .no .no .no) ⟨_, ev_asg (ev_F (ev_cons rfl (ev_cons rfl (ev_cons rfl rfl))) htaken) rfl, rfl⟩ fun g hg => ?_
  subst hg
  refine runs_for (enc := eN) (xs := List.range S.looks.length) (fun dl g => ∃ (M : List St) (j11 j13 j14 : Sl), g = gA a0 a1 (eSky S) (.int most) a4 a5 (.list (R2.map (eRl srt S most))) a7 (.list (M.map eSt)) (.im (eNs F)) (.im (.list ((namesT srt S most R2 F S.looks.length).map eN))) j11 .no j13 j14 .no .no .no .no .no .no ∧ M.Nodup ∧ ∀ s, s ∈ M ↔ (∃ F ∈ done, ∃ L, L < S.looks.length ∧ s = metS srt S most R2 F L) ∨ ∃ L ∈ dl, s = metS srt S most R2 F L)
    (ev_iR (ev_F (ev_cons (ev_B rfl rfl rfl) rfl) hlen) (by omega)) ⟨M, _, _, _, rfl, hM, fun s => (hI s).trans ⟨.inl, fun q => q.elim id fun ⟨L, h, _⟩ => by cases h⟩⟩ (fun dl L rest2 hd2 g ⟨M2, k11, k13, k14, hg, hM2, hI2⟩ => ?_) fun g ⟨M2, k11, k13, k14, hg, hM2, hI2⟩ => ⟨M2, _, _, _, _, _, hg, hM2, fun s => (hI2 s).trans ⟨fun q => ?_, fun ⟨F', h1, L, h2, h3⟩ => ?_⟩⟩
  · subst hg
    refine ⟨_, rfl, ?_⟩
    have hL : L < S.looks.length := List.mem_range.mp (by rw [hd2]; simp)
    have hlk := atD_map (f := eLook) (lk_at hL)
    have tk := names_ok (srt := srt) (most := most) (R := R2) (F := F) c.hs c.ok c.w L (by omega)
    have hstate := r_law_state c.hs c.ok c.w tk hL (flT S F L)
    have hin := met_in c hFok L hL
    refine runs_seq (P := fun g => g = gA a0 a1 (eSky S) (.int most) a4 a5 (.list (R2.map (eRl srt S most))) a7 (.list (M2.map eSt)) (.im (eNs F)) (.im (.list ((namesT srt S most R2 F S.looks.length).map eN))) (.im (eN L)) .no (.im (eNs (flT S F L))) k14 .no .no .no .no .no .no)
      ⟨_, ev_asg (ev_F (ev_cons (lc_fl (L := L) hFlt (ev_iT rfl) (by omega) (fun k e hke => ev_B (ev_B (ev_B rfl rfl rfl) rfl (atD_map (f := eEar) hke)) rfl rfl) (fun k => ev_B (ev_B (ev_B rfl rfl rfl) rfl hlk) rfl rfl) fun k => rfl) rfl) rfl) rfl, rfl⟩ fun g hg => ?_
    subst hg
    have hnames : eLc (iL (eV 10)) (.n 22) (tC cLt (eV 22) (eV 11)) (eV 22) (vI (gA a0 a1 (eSky S) (.int most) a4 a5 (.list (R2.map (eRl srt S most))) a7 (.list (M2.map eSt)) (.im (eNs F)) (.im (.list ((namesT srt S most R2 F S.looks.length).map eN))) (.im (eN L)) .no (.im (eNs (flT S F L))) k14 .no .no .no .no .no .no)) = some (.list ((namesT srt S most R2 F L).map eN)) := by
      rw [← names_at c (F := F) (L := L) S.looks.length (by omega) (Nat.le_refl _)]
      exact ev_lc (enc := eN) (fun n => decide (n < L)) eN (ev_iL rfl) (by omega) fun n _ => ⟨_, rfl, ev_tC rfl rfl (congrArg some (decide_eq_decide.mpr (show ((n : Int) < (L : Int)) ↔ n < L by omega))), fun _ => ⟨rfl, rfl⟩⟩
    refine runs_seq (P := fun g => g = gA a0 a1 (eSky S) (.int most) a4 a5 (.list (R2.map (eRl srt S most))) a7 (.list (M2.map eSt)) (.im (eNs F)) (.im (.list ((namesT srt S most R2 F S.looks.length).map eN))) (.im (eN L)) .no (.im (eNs (flT S F L))) (.im (eSt (metS srt S most R2 F L))) .no .no .no .no .no .no)
      ⟨_, ev_asg (ev_F (ev_cons rfl (ev_cons hnames (ev_cons rfl (ev_cons rfl rfl)))) hstate) rfl, rfl⟩ fun g hg => ?_
    subst hg
    refine runs_if (ev_tC rfl rfl (cNiD_st (metS srt S most R2 F L) M2)) (fun hk => ?_) fun hk => ?_
    · have hn : metS srt S most R2 F L ∉ M2 := by simpa using hk
      have hsub : ∀ x ∈ M2, x ∈ R := fun x hx => by
        rcases (hI2 x).mp hx with ⟨F', h1, L', h2, e⟩ | ⟨L', h1, e⟩
        · rw [e]; exact met_in c ((hFs F').mp (by rw [hd]; exact List.mem_append_left _ h1)) L' h2
        · rw [e]; exact met_in c hFok L' (List.mem_range.mp (by rw [hd2]; exact List.mem_append_left _ h1))
      have hl := nodup_sub hM2 hsub
      have hRl := c.r.len
      refine ⟨_, ev_app1 rfl rfl (by rw [List.length_map]; omega) rfl, M2 ++ [metS srt S most R2 F L], .im (eN L), .im (eNs (flT S F L)), .im (eSt (metS srt S most R2 F L)), ?_, List.nodup_append.mpr ⟨hM2, by simp, fun a ha b hb e => hn (by rw [List.mem_singleton] at hb; rw [← hb, ← e]; exact ha)⟩, fun s => ?_⟩
      · rw [List.map_append]; rfl
      · rw [List.mem_append, hI2, List.mem_singleton]
        constructor
        · rintro ((q | ⟨L', h1, h2⟩) | q)
          · exact .inl q
          · exact .inr ⟨L', List.mem_append_left _ h1, h2⟩
          · exact .inr ⟨L, by simp, q⟩
        · rintro (q | ⟨L', h1, h2⟩)
          · exact .inl (.inl q)
          · rcases List.mem_append.mp h1 with h1 | h1
            · exact .inl (.inr ⟨L', h1, h2⟩)
            · rw [List.mem_singleton.mp h1] at h2
              exact .inr h2
    · have hn : metS srt S most R2 F L ∈ M2 := by
        cases hc : decide (metS srt S most R2 F L ∈ M2) with
        | true => exact of_decide_eq_true hc
        | false => rw [hc] at hk; cases hk
      refine ⟨_, rfl, M2, _, _, _, rfl, hM2, fun s => ?_⟩
      rw [hI2]
      constructor
      · rintro (q | ⟨L', h1, h2⟩)
        · exact .inl q
        · exact .inr ⟨L', List.mem_append_left _ h1, h2⟩
      · rintro (q | ⟨L', h1, h2⟩)
        · exact .inl q
        · rcases List.mem_append.mp h1 with h1 | h1
          · exact .inr ⟨L', h1, h2⟩
          · rw [List.mem_singleton.mp h1] at h2
            rw [h2]
            exact (hI2 _).mp hn
  · rcases q with ⟨F', h1, h2⟩ | ⟨L', h1, h2⟩
    · exact ⟨F', List.mem_append_left _ h1, h2⟩
    · exact ⟨F, by simp, L', List.mem_range.mp h1, h2⟩
  · rcases List.mem_append.mp h1 with h1 | h1
    · exact .inl ⟨F', h1, L, h2, h3⟩
    · rw [List.mem_singleton.mp h1] at h3
      exact .inr ⟨L, List.mem_range.mpr h2, h3⟩
end
end Sk
/-! SkPure19: the law returns True -/
namespace Sk
open PySem
section
variable {srt : List D → List D} {S : Sky} {most : Int} {R R2 : List St}
/-- a list of four ints, at kind -/
theorem four_at (a b c d : Int) {k : Nat} (h : k < 4) : ∃ v, oIx (.list [.int a, .int b, .int c, .int d]) (eN k) = some (.int v) ∧ v ∈ [a, b, c, d] := by
  have : k = 0 ∨ k = 1 ∨ k = 2 ∨ k = 3 := by omega
  rcases this with rfl | rfl | rfl | rfl
  · exact ⟨a, rfl, by simp⟩
  · exact ⟨b, rfl, by simp⟩
  · exact ⟨c, rfl, by simp⟩
  · exact ⟨d, rfl, by simp⟩
theorem kinds_loop (c : MCtx srt S most R R2) {ds : List Int} (hds : ds.length = 90) {T : Num} (hT : (T.map (·.1)).Perm R) {a0 a3' a6 a7 : D} {met : D} {j9 j10 j11 j13 j14 : Sl} (h3' : a3' = .int most) :
    Runs (sFor (iR (eC (.int 4))) (.n 15)
    (sSeq (sAsg (.n 16) (eB oIx (eLst (aCons (eC (.int 1)) (aCons (eC (.int 1)) (aCons (eC (.int 3)) (aCons (eC (.int 12)) aNil))))) (eV 15))) (sSeq (sNew 17 (eLst aNil)) (sSeq (sFor (iR (eF fLen (aCons (eV 5) aNil))) (.n 12)
    (sSeq (sAsg (.n 18) (eB oSub (eB oMod (eF fInt (aCons (eB oIx (eV 1) (eB oAdd (eC (.int 55)) (eB oMod (eF fInt (aCons (eB oAdd (eV 12) (eB oMul (eC (.int 3)) (eV 15))) aNil)) (eC (.int 30))))) aNil)) (eB oAdd (eV 16) (eC (.int 1)))) (eB oIx (eLst (aCons (eC (.int 0)) (aCons (eV 16) (aCons (eC (.int 1)) (aCons (eC (.int 6)) aNil))))) (eV 15)))) (sApp 17 (eTup (aCons (eB oIx (eB oIx (eV 5) (eV 12)) (eC (.int 0))) (aCons (eB oAdd (eB oIx (eB oIx (eV 5) (eV 12)) (eC (.int 1))) (eV 18)) aNil)))))) (sSeq (sFz 17) (sSeq (sAsg (.n 19) (eLc (iL (eV 17)) (.t [14, 21]) (tC cEq (eB oIx (eV 14) (eC (.int 0))) (eC (.int 0))) (eV 21))) (sSeq (sAsg (.n 20) (eF fMinD (aCons (eV 19) (aCons (eC (.int 0)) aNil)))) (sIf (tOr (tAnd (tTr (eF (s_is_sure_lower srt) (aApp (aCons (eV 2) (aCons (eV 17) aNil)) (aCons (eV 3) aNil)))) (tC cGt (eV 20) (eV 4))) (tAnd (tTr (eF (s_is_sure_upper srt) (aApp (aCons (eV 2) (aCons (eV 17) aNil)) (aCons (eV 3) aNil)))) (tC cLt (eV 20) (eV 4))))
    (sRet (eC (.bool false)))
    sNil))))))))
    (gA a0 (.list (ds.map .int)) (eSky S) a3' (.int (minD ((firstT S most).map (vS srt S most)))) (.list (T.map eRow)) a6 a7 met j9 j10 j11 .no j13 j14 .no .no .no .no .no .no)
    (fun _ => True) := by
  subst h3'
  have hLim : LIM = 16777216 := rfl
  have hTn : (T.map (·.1)).Nodup := hT.nodup_iff.mpr c.r.nd
  have hTk : ∀ s, s ∈ T.map (·.1) ↔ s ∈ R := fun s => hT.mem_iff
  have hTl : T.length ≤ 559240 := by
    have q := hT.length_eq
    rw [List.length_map] at q
    have := c.r.len
    omega
  have hlenT := fLen_map eRow T
  generalize hsu : minD ((firstT S most).map (vS srt S most)) = sure
  refine runs_for (enc := eN) (xs := List.range 4) (fun done g => ∃ (j12 j14 j15 j16 j17 j18 j19 j20 : Sl), g = gA a0 (.list (ds.map .int)) (eSky S) (.int most) (.int sure) (.list (T.map eRow)) a6 a7 met j9 j10 j11 j12 j13 j14 j15 j16 j17 j18 j19 j20)
    (ev_iRz (n := 4) rfl (by decide) (by decide)) ⟨_, _, _, _, _, _, _, _, rfl⟩ (fun done kind rest hd g ⟨j12, j14, j15, j16, j17, j18, j19, j20, hg⟩ => ?_) fun _ _ => trivial
  subst hg
  refine ⟨_, rfl, ?_⟩
  have hk4 : kind < 4 := List.mem_range.mp (by rw [hd]; simp)
  obtain ⟨step, s1, s2⟩ := four_at 1 1 3 12 hk4
  have hstep : 1 ≤ step := by
    simp only [List.mem_cons, List.mem_nil_iff, or_false] at s2
    rcases s2 with h | h | h | h <;> omega
  obtain ⟨off, o1, _⟩ := four_at 0 step 1 6 hk4
  refine runs_seq (P := fun g => g = gA a0 (.list (ds.map .int)) (eSky S) (.int most) (.int sure) (.list (T.map eRow)) a6 a7 met j9 j10 j11 j12 j13 j14 (.im (eN kind)) (.im (.int step)) j17 j18 j19 j20) ⟨_, ev_asg (ev_B (ev_lst (ev_cons rfl (ev_cons rfl (ev_cons rfl (ev_cons rfl rfl))))) rfl s1) rfl, rfl⟩ fun g hg => ?_
  subst hg
  refine runs_seq (P := fun g => g = gA a0 (.list (ds.map .int)) (eSky S) (.int most) (.int sure) (.list (T.map eRow)) a6 a7 met j9 j10 j11 j12 j13 j14 (.im (eN kind)) (.im (.int step)) (.mu (.list [])) j18 j19 j20) ⟨_, ev_new rfl, rfl⟩ fun g hg => ?_
  subst hg
  -- the rows
  refine runs_seq (P := fun g => ∃ (rows : Num) (j12 j18 : Sl), g = gA a0 (.list (ds.map .int)) (eSky S) (.int most) (.int sure) (.list (T.map eRow)) a6 a7 met j9 j10 j11 j12 j13 j14 (.im (eN kind)) (.im (.int step)) (.mu (.list (rows.map eRow))) j18 j19 j20 ∧ rows.map (·.1) = T.map (·.1))
    (runs_for (enc := eN) (xs := List.range T.length) (fun dk g => ∃ (rows : Num) (j12 j18 : Sl), g = gA a0 (.list (ds.map .int)) (eSky S) (.int most) (.int sure) (.list (T.map eRow)) a6 a7 met j9 j10 j11 j12 j13 j14 (.im (eN kind)) (.im (.int step)) (.mu (.list (rows.map eRow))) j18 j19 j20 ∧ rows.map (·.1) = (T.map (·.1)).take dk.length)
      (ev_iR (ev_F (ev_cons rfl rfl) hlenT) (by omega)) ⟨[], _, _, rfl, rfl⟩ (fun dk k rest2 hd2 g ⟨rows, k12, k18, hg, hr⟩ => ?_) fun g ⟨rows, k12, k18, hg, hr⟩ => ⟨rows, k12, k18, hg, by rw [hr, List.length_range]; exact List.take_of_length_le (by rw [List.length_map]; exact Nat.le_refl _)⟩) fun g ⟨rows, k12, k18, hg, hr⟩ => ?_
  · subst hg
    obtain ⟨hk1, hk2⟩ := range_at hd2
    have hTk2 : T[k]? = some T[k] := List.getElem?_eq_getElem hk2
    have hix := atD_map (f := eRow) hTk2
    have hi : (k + 3 * kind) % 30 < 30 := Nat.mod_lt _ (by decide)
    have hdr := dr_at hds (i := 55 + (k + 3 * kind) % 30) (by omega) (x := 55 + ((k : Int) + 3 * (kind : Int)) % 30) (by omega)
    refine ⟨_, rfl, ?_⟩
    have hby : eB oSub (eB oMod (eF fInt (aCons (eB oIx (eV 1) (eB oAdd (eC (.int 55)) (eB oMod (eF fInt (aCons (eB oAdd (eV 12) (eB oMul (eC (.int 3)) (eV 15))) aNil)) (eC (.int 30))))) aNil)) (eB oAdd (eV 16) (eC (.int 1)))) (eB oIx (eLst (aCons (eC (.int 0)) (aCons (eV 16) (aCons (eC (.int 1)) (aCons (eC (.int 6)) aNil))))) (eV 15))
        (vI (gA a0 (.list (ds.map .int)) (eSky S) (.int most) (.int sure) (.list (T.map eRow)) a6 a7 met j9 j10 j11 (.im (eN k)) j13 j14 (.im (eN kind)) (.im (.int step)) (.mu (.list (rows.map eRow))) k18 j19 j20)) = some (.int (drI ds (55 + (k + 3 * kind) % 30) % (step + 1) - off)) :=
      ev_B (ev_B (ev_F (ev_cons (ev_B rfl (ev_B rfl (ev_B (ev_F (ev_cons (ev_B rfl (ev_B rfl rfl (mul_small 3 (kind : Int) (by decide) (by decide))) rfl) rfl) rfl) rfl (oMod_pos _ (by decide))) rfl) hdr) rfl) rfl) (ev_B rfl rfl rfl) (oMod_pos _ (by omega))) (ev_B (ev_lst (ev_cons rfl (ev_cons rfl (ev_cons rfl (ev_cons rfl rfl))))) rfl o1) rfl
    have hrl : rows.length < LIM := by
      have q := congrArg List.length hr
      rw [List.length_map, List.length_take] at q
      omega
    apply runs_of
    · exact ev_seq (ev_asg hby rfl) (ev_app1 rfl (ev_tup (ev_cons (ev_B (ev_B rfl rfl hix) rfl rfl) (ev_cons (ev_B (ev_B (ev_B rfl rfl hix) rfl rfl) rfl rfl) rfl))) (by rw [List.length_map]; exact hrl) rfl)
    · refine ⟨rows ++ [((T[k]).1, (T[k]).2 + (drI ds (55 + (k + 3 * kind) % 30) % (step + 1) - off))], .im (eN k), .im (.int (drI ds (55 + (k + 3 * kind) % 30) % (step + 1) - off)), ?_, ?_⟩
      · rw [List.map_append]; rfl
      · rw [List.map_append, hr, List.length_append]
        show _ = (T.map (·.1)).take (dk.length + 1)
        rw [List.take_add_one, ← hk1, List.getElem?_map, hTk2]
        rfl
  · subst hg
    have hn : (rows.map (·.1)).Nodup := by rw [hr]; exact hTn
    have hkk : ∀ s, s ∈ rows.map (·.1) ↔ s ∈ R := by rw [hr]; exact hTk
    have hrl : rows.length ≤ LIM := by
      have q := congrArg List.length hr
      rw [List.length_map, List.length_map] at q
      omega
    have hokr : ∀ p ∈ rows, StOk S most p.1 := fun p hp => c.r.ok _ ((hkk p.1).mp (List.mem_map.mpr ⟨p, hp, rfl⟩))
    obtain ⟨k1, l1, l2⟩ := r_is_sure_lower c.hs c.ok c.h0 c.h3 hn hokr
    obtain ⟨k2, u1, u2⟩ := r_is_sure_upper c.hs c.ok c.h0 c.h3 hn hokr (fun f hf => (hkk f).mpr (c.r.first f hf)) fun p hp take ht b hb => (hkk b).mpr (c.r.clo _ ((hkk p.1).mp (List.mem_map.mpr ⟨p, hp, rfl⟩)) take ht b hb)
    have hfst : eLc (iL (eV 17)) (.t [14, 21]) (tC cEq (eB oIx (eV 14) (eC (.int 0))) (eC (.int 0))) (eV 21) (vI (gA a0 (.list (ds.map .int)) (eSky S) (.int most) (.int sure) (.list (T.map eRow)) a6 a7 met j9 j10 j11 k12 j13 j14 (.im (eN kind)) (.im (.int step)) (.im (.list (rows.map eRow))) k18 j19 j20))
        = some (.list (((rows.filter fun p => decide (p.1.look = 0)).map (·.2)).map .int)) := by
      have := ev_lc (enc := eRow) (src := iL (eV 17)) (tg := .t [14, 21]) (tt := tC cEq (eB oIx (eV 14) (eC (.int 0))) (eC (.int 0))) (el := eV 21) (r := vI (gA a0 (.list (ds.map .int)) (eSky S) (.int most) (.int sure) (.list (T.map eRow)) a6 a7 met j9 j10 j11 k12 j13 j14 (.im (eN kind)) (.im (.int step)) (.im (.list (rows.map eRow))) k18 j19 j20)) (fun p => decide (p.1.look = 0)) (fun p => .int p.2) (xs := rows) (ev_iL rfl) hrl fun p _ => ⟨_, rfl, ev_tC (ev_B rfl rfl rfl) rfl (congrArg some (decide_eq_decide.mpr (show ((p.1.look : Int) = 0) ↔ p.1.look = 0 by omega))), fun _ => ⟨rfl, rfl⟩⟩
      rw [this, List.map_map]
      rfl
    have hmin : fMinD [.list (((rows.filter fun p => decide (p.1.look = 0)).map (·.2)).map .int), .int 0] = some (.int (least0 rows)) := fMinD_map _
    have htest := ev_tOr (ev_And (ev_Tr (a := eF (s_is_sure_lower srt) (aApp (aCons (eV 2) (aCons (eV 17) aNil)) (aCons (eV 3) aNil))) (r := vA (gA a0 (.list (ds.map .int)) (eSky S) (.int most) (.int sure) (.list (T.map eRow)) a6 a7 met j9 j10 j11 k12 j13 j14 (.im (eN kind)) (.im (.int step)) (.im (.list (rows.map eRow))) k18 (.im (.list (((rows.filter fun p => decide (p.1.look = 0)).map (·.2)).map .int))) (.im (.int (least0 rows))))) (ev_F (ev_app (ev_cons rfl (ev_cons rfl rfl)) (ev_cons rfl rfl)) l1) rfl) (ev_tC (g := cGt) (a := eV 20) (b := eV 4) (k := decide (sure < least0 rows)) rfl rfl rfl))
      (ev_And (ev_Tr (a := eF (s_is_sure_upper srt) (aApp (aCons (eV 2) (aCons (eV 17) aNil)) (aCons (eV 3) aNil))) (ev_F (ev_app (ev_cons rfl (ev_cons rfl rfl)) (ev_cons rfl rfl)) u1) rfl) (ev_tC (g := cLt) (a := eV 20) (b := eV 4) (k := decide (least0 rows < sure)) rfl rfl rfl))
    have hfalse : ((k1 && decide (sure < least0 rows)) || (k2 && decide (least0 rows < sure))) = false := by
      have e1 : (k1 && decide (sure < least0 rows)) = false := by
        cases hk : k1 with
        | false => rfl
        | true =>
          have := least_low c hn hkk (l2.mp hk)
          rw [hsu] at this
          rw [decide_eq_false (by omega)]
          rfl
      have e2 : (k2 && decide (least0 rows < sure)) = false := by
        cases hk : k2 with
        | false => rfl
        | true =>
          have := least_up c hn hkk (u2 hk)
          rw [hsu] at this
          rw [decide_eq_false (by omega)]
          rfl
      rw [e1, e2]; rfl
    rw [hfalse] at htest
    exact ⟨_, ev_seq (g' := gA a0 (.list (ds.map .int)) (eSky S) (.int most) (.int sure) (.list (T.map eRow)) a6 a7 met j9 j10 j11 k12 j13 j14 (.im (eN kind)) (.im (.int step)) (.im (.list (rows.map eRow))) k18 j19 j20) rfl (ev_seq (ev_asg hfst rfl) (ev_seq (ev_asg (ev_F (ev_cons rfl (ev_cons rfl rfl)) hmin) rfl) (ev_ifF htest rfl))), _, _, _, _, _, _, _, _, rfl⟩
/-- THE LAW, on data -/
theorem law_pure (hs : Srt srt) (ns : List Int) (hn : ns.length ≤ 63) : s_law srt [.list (ns.map .int)] = some (.bool true) := by
  have hLim : LIM = 16777216 := rfl
  obtain ⟨ds, d1, d2, d3⟩ := r_law_draws ns hn
  obtain ⟨S1, k1, k2⟩ := r_law_sky d2
  have hcl : ((ds.drop 50).take 4).length = 4 := by rw [List.length_take, List.length_drop, d2]; decide
  obtain ⟨S, e1, e2⟩ := r_law_more_ears k2 hcl
  obtain ⟨ok, w⟩ := sky_ok e2
  have m4 := mod_rng (drI ds 54) (b := 4) (by decide)
  generalize hmo : drI ds 54 % 4 = most at m4
  have h0 : 0 ≤ most := m4.1
  have h3 : most ≤ 3 := by omega
  obtain ⟨R, r1, r2⟩ := r_reached hs ok h0 h3
  have hnum := r_sure_numbers hs ok h0 h3 r2 r1
  have hMp : (R.reverse.map fun s => (s, vS srt S most s)).Perm (R.map fun s => (s, vS srt S most s)) := (List.reverse_perm R).map _
  obtain ⟨T, t1, t2⟩ := r_sure_table hs hnum
  have hTM := t2.trans hMp
  have hTR : (T.map (·.1)).Perm R := by
    have := hTM.map (·.1)
    rw [keys_of] at this
    exact this
  obtain ⟨R2, u1, u2⟩ := r_sure_rule hs ok h0 h3 r2 hMp hnum
  have c : MCtx srt S most R R2 := ⟨hs, ok, w, h0, h3, r2, fun s => u2.mem_iff⟩
  have hTn : (T.map (·.1)).Nodup := hTR.nodup_iff.mpr r2.nd
  have hget : ∀ s ∈ R, getN T s = some (vS srt S most s) := fun s hsR => getN_some hTn (hTM.mem_iff.mpr (List.mem_map.mpr ⟨s, hsR, rfl⟩))
  have hdict := fDict_rows hTn
  obtain ⟨Fs, f1, f2⟩ := r_law_failings hs ok h0 (S := S)
  have hFs : ∀ F, F ∈ Fs ↔ FOkT S most F := fun F => by
    rw [f2.mem_iff, waysT_mem]
    exact ⟨fun ⟨⟨sub, h1, h2⟩, h3⟩ => ⟨by rw [show F = sub from h2]; exact h1, h3⟩, fun h => ⟨⟨F, h.sub, rfl⟩, h.len⟩⟩
  have hworth := r_sure_worth hs ok w h0 h3
  have hcut : eCut (eV 1) (oSome (eC (.int 50))) (oSome (eC (.int 54))) [some (.list (ns.map .int)), some (.list (ds.map .int)), none, none, none, none, none, none, none, none, none, none, none, none, none, none, none, none, none, none, none, none, none] = some (.list (((ds.drop 50).take 4).map .int)) := by
    refine (ev_cut (xs := ds.map .int) rfl (ev_some rfl) (ev_some rfl)).trans ?_
    unfold cutD
    rw [List.length_map, d2, List.map_take, List.map_drop]
    rfl
  obtain ⟨g8, q1, Mt, j9, j10, j11, j13, j14, rfl, hMn, hMet⟩ := met_loop c (u2.nodup_iff.mpr r2.nd) (by rw [u2.length_eq]; exact r2.len) hFs f1 (a0 := .list (ns.map .int)) (a1 := .list (ds.map .int)) (a4 := .int (minD ((firstT S most).map (vS srt S most)))) (a5 := .list (T.map eRow)) (a7 := eNum T)
  have hMR : ∀ s ∈ Mt, s ∈ R := fun s h => by
    obtain ⟨F, hF, L, hL, e⟩ := (hMet s).mp h
    rw [e]; exact met_in c hF L hL
  have hMl : Mt.length ≤ LIM := by have := nodup_sub hMn hMR; have := r2.len; omega
  -- the met rows
  have hrows : eLc (iL (eV 8)) (.n 14) tTrue (eTup (aCons (eV 14) (aCons (eB oGet (eV 7) (eV 14)) aNil))) (vA (gA (.list (ns.map .int)) (.list (ds.map .int)) (eSky S) (.int most) (.int (minD ((firstT S most).map (vS srt S most)))) (.list (T.map eRow)) (.list (R2.map (eRl srt S most))) (eNum T) (.list (Mt.map eSt)) j9 j10 j11 .no j13 j14 .no .no .no .no .no .no))
      = some (.list ((Mt.map fun s => (s, vS srt S most s)).map eRow)) := by
    have := ev_lcA (enc := eSt) (src := iL (eV 8)) (tg := .n 14) (el := eTup (aCons (eV 14) (aCons (eB oGet (eV 7) (eV 14)) aNil))) (r := vA (gA (.list (ns.map .int)) (.list (ds.map .int)) (eSky S) (.int most) (.int (minD ((firstT S most).map (vS srt S most)))) (.list (T.map eRow)) (.list (R2.map (eRl srt S most))) (eNum T) (.list (Mt.map eSt)) j9 j10 j11 .no j13 j14 .no .no .no .no .no .no)) (fun s => eRow (s, vS srt S most s)) (xs := Mt) (ev_iL rfl) hMl fun s hsM => ⟨_, rfl, ev_tup (ev_cons rfl (ev_cons (ev_B rfl rfl (oGet_num (hget s (hMR s hsM)))) rfl)), rfl⟩
    rw [this, List.map_map]
    rfl
  have hkM : ((Mt.map fun s => (s, vS srt S most s)).map (·.1)).Nodup := by rw [keys_of]; exact hMn
  obtain ⟨kl, l1, l2⟩ := r_is_sure_lower hs ok h0 h3 hkM fun p hp => by
    obtain ⟨s, hsM, rfl⟩ := List.mem_map.mp hp
    exact r2.ok s (hMR s hsM)
  have hkl : kl = true := l2.mpr (low_met c hMn hMet)
  subst hkl
  -- the least of the met rows
  have hleast : eLc (iL (eV 8)) (.n 14) (tC cEq (eB oIx (eV 14) (eC (.int 0))) (eC (.int 0))) (eB oGet (eV 7) (eV 14)) (vA (gA (.list (ns.map .int)) (.list (ds.map .int)) (eSky S) (.int most) (.int (minD ((firstT S most).map (vS srt S most)))) (.list (T.map eRow)) (.list (R2.map (eRl srt S most))) (eNum T) (.list (Mt.map eSt)) j9 j10 j11 .no j13 j14 .no .no .no .no .no .no))
      = some (.list (((Mt.filter fun s => decide (s.look = 0)).map (vS srt S most)).map .int)) := by
    have := ev_lc (enc := eSt) (src := iL (eV 8)) (tg := .n 14) (tt := tC cEq (eB oIx (eV 14) (eC (.int 0))) (eC (.int 0))) (el := eB oGet (eV 7) (eV 14)) (r := vA (gA (.list (ns.map .int)) (.list (ds.map .int)) (eSky S) (.int most) (.int (minD ((firstT S most).map (vS srt S most)))) (.list (T.map eRow)) (.list (R2.map (eRl srt S most))) (eNum T) (.list (Mt.map eSt)) j9 j10 j11 .no j13 j14 .no .no .no .no .no .no)) (fun s => decide (s.look = 0)) (fun s => .int (vS srt S most s)) (xs := Mt) (ev_iL rfl) hMl fun s hsM => ⟨_, rfl, ev_tC (ev_B rfl rfl rfl) rfl (congrArg some (decide_eq_decide.mpr (show ((s.look : Int) = 0) ↔ s.look = 0 by omega))), fun _ => ⟨ev_B rfl rfl (oGet_num (hget s (hMR s hsM))), rfl⟩⟩
    rw [this, List.map_map]
    rfl
  have hminM : fMinD [.list (((Mt.filter fun s => decide (s.look = 0)).map (vS srt S most)).map .int), .int 0] = some (.int (minD ((firstT S most).map (vS srt S most)))) := by
    rw [fMinD_map, min_met c hMet]
  have hne : cNe (.int (minD ((firstT S most).map (vS srt S most)))) (.int (minD ((firstT S most).map (vS srt S most)))) = some false := by
    show some (!decide (minD ((firstT S most).map (vS srt S most)) = minD ((firstT S most).map (vS srt S most)))) = _
    rw [decide_eq_true rfl]; rfl
  obtain ⟨g9, q2, _⟩ := kinds_loop c d2 hTR (a0 := .list (ns.map .int)) (a6 := .list (R2.map (eRl srt S most))) (a7 := eNum T) (met := .list (Mt.map eSt)) (j9 := j9) (j10 := j10) (j11 := j11) (j13 := j13) (j14 := j14) (a3' := .int most) rfl
  have hmost : eB oMod (eF fInt (aCons (eB oIx (eV 1) (eC (.int 54))) aNil)) (eC (.int 4)) (vI [.im (.list (ns.map .int)), .im (.list (ds.map .int)), .im (eSky S), .no, .no, .no, .no, .no, .no, .no, .no, .no, .no, .no, .no, .no, .no, .no, .no, .no, .no, .no, .no]) = some (.int most) := by
    rw [← hmo]
    exact ev_B (ev_F (ev_cons (ev_B rfl rfl (dr_at d2 (i := 54) (by decide) rfl)) rfl) rfl) rfl (oMod_pos _ (by decide))
  refine ev_run rfl ?_
  show b_law srt [.im (.list (ns.map .int)), .no, .no, .no, .no, .no, .no, .no, .no, .no, .no, .no, .no, .no, .no, .no, .no, .no, .no, .no, .no, .no, .no] = _
  unfold b_law
  refine ev_seq (ev_asg (ev_F (ev_cons rfl (ev_cons rfl rfl)) d1) rfl) ?_
  refine ev_seq (ev_asg (ev_F (ev_cons (ev_F (ev_cons rfl (ev_cons rfl rfl)) k1) (ev_cons hcut rfl)) e1) rfl) ?_
  refine ev_seq (ev_asg hmost rfl) ?_
  refine ev_seq (ev_asg (ev_F (ev_cons rfl (ev_cons rfl rfl)) hworth) rfl) ?_
  refine ev_seq (ev_par (ev_F (ev_app (ev_cons rfl rfl) (ev_cons rfl rfl)) t1) (ev_F (ev_app (ev_cons rfl rfl) (ev_cons rfl rfl)) u1)) ?_
  refine ev_seq (ev_asg (ev_F (ev_cons rfl rfl) hdict) rfl) ?_
  refine ev_seq (ev_new rfl) ?_
  refine ev_seq q1 ?_
  refine ev_seq (ev_ifF (ev_tC (ev_F (ev_app (ev_cons rfl (ev_cons hrows rfl)) (ev_cons rfl rfl)) l1) rfl rfl) rfl) ?_
  refine ev_seq (ev_ifF (ev_tC (ev_F (ev_cons hleast (ev_cons rfl rfl)) hminM) rfl hne) rfl) ?_
  exact ev_seq q2 (ev_ret rfl)
end
end Sk
/-! SkPureMain: the sort keeps its promise; the law, on data, with the sort as it is -/
namespace Sk
open PySem PySem.W PyProof.Rows
theorem le_trans_d (a b c : D) (h1 : dataLe false id a b = true) (h2 : dataLe false id b c = true) : dataLe false id a c = true := by
  have h1 : (!dataLt b a) = true := h1
  have h2 : (!dataLt c b) = true := h2
  show (!dataLt c a) = true
  cases h : dataLt c a with
  | false => rfl
  | true =>
    rcases lex_negTrans (O := itemOrd) (keyToks c) (keyToks b) (keyToks a) h with q | q
    · have q : dataLt c b = true := q
      rw [q] at h2; cases h2
    · have q : dataLt b a = true := q
      rw [q] at h1; cases h1
theorem le_total_d (a b : D) : (dataLe false id a b || dataLe false id b a) = true := by
  show ((!dataLt b a) || (!dataLt a b)) = true
  cases h1 : dataLt b a with
  | false => rfl
  | true =>
    cases h2 : dataLt a b with
    | false => rfl
    | true =>
      have h : PyProof.Rows.lexLt itemOrd (keyToks a) (keyToks a) = true := lex_trans (O := itemOrd) _ _ _ h2 h1
      rw [lex_irrefl] at h
      cases h
theorem srt_sorted (xs : List D) : (srt xs).Pairwise fun a b => dataLe false id a b = true := List.pairwise_mergeSort le_trans_d le_total_d xs
theorem look_le {a b : St} (h : dataLe false id (eSt a) (eSt b) = true) : a.look ≤ b.look := by
  refine Nat.le_of_not_lt fun hlt => ?_
  have h : (!dataLt (eSt b) (eSt a)) = true := h
  have e : dataLt (eSt b) (eSt a) = true := by
    unfold eSt
    rw [dataLt_tuple, dataLt_all_no (by simp [alike]) (by simp [PyData.eqv]; omega), dataLt_int]
    exact decide_eq_true (by omega)
  rw [e] at h
  cases h
theorem srt_ok : Srt srt where
  perm := fun xs => List.mergeSort_perm xs _
  nums := fun xs ys p => by
    obtain ⟨zs, h1, h2⟩ := perm_map (f := PyData.int) (List.mergeSort_perm (xs.map PyData.int) (dataLe false id)) xs rfl
    obtain ⟨ws, h3, h4⟩ := perm_map (f := PyData.int) (List.mergeSort_perm (ys.map PyData.int) (dataLe false id)) ys rfl
    have s1 := srt_sorted (xs.map .int)
    have s2 := srt_sorted (ys.map .int)
    have h1 : srt (xs.map .int) = zs.map .int := h1
    have h3 : srt (ys.map .int) = ws.map .int := h3
    rw [h1, List.pairwise_map] at s1
    rw [h3, List.pairwise_map] at s2
    have le : ∀ {i j : Int}, dataLe false id (PyData.int i) (.int j) = true → i ≤ j := fun {i j} h => by
      have h : (!dataLt (.int j) (.int i)) = true := h
      rw [dataLt_int] at h
      by_cases c : j < i
      · rw [decide_eq_true c] at h; cases h
      · omega
    have e : zs = ws := List.Perm.eq_of_pairwise (le := fun i j : Int => i ≤ j) (fun a b _ _ h1 h2 => Int.le_antisymm h1 h2) (s1.imp fun h => le h) (s2.imp fun h => le h) (h2.trans (p.trans h4.symm))
    rw [h1, h3, e]
  st := fun l ys h => by
    have s := srt_sorted (l.map eSt)
    rw [h, List.pairwise_map] at s
    exact s.imp fun h => look_le h
theorem law_true (ns : List Int) (h : ns.length ≤ 63) : s_law Sk.srt [.list (ns.map .int)] = some (.bool true) := law_pure srt_ok ns h
end Sk
/-! SkJoin (printed by gen.py): what the top has written; the law -/
namespace Sk
open PySem PySem.Spec PyProof.Rows L2
theorem none_left {P : Program} {w : World} {K : PySem.W.Frag} {mg : Str → Option Value} {base : Heap} {f : Addr} {fd : FuncData} {ps : List Str} {k : Nat} {fr : Bool} : FnOk P w K mg base CX0 k f fd ps (spD ⟨K, P, w⟩ fr fun _ => none) := by
  have no : ∀ vs H Q E, ¬ spD ⟨K, P, w⟩ fr (fun _ => none) vs H Q E := fun vs H Q E ⟨B, ds, d, _, _, h, _⟩ => by cases h
  exact ⟨fun vs H Q E h => absurd h (no vs H Q E), fun A outer s H args us vs Q E _ _ _ _ h => absurd h (no vs H Q E)⟩
theorem vals_app : ∀ {vs : List V} {us : List Value} {zs : List V} {ws : List Value}, Vals vs us → Vals zs ws → Vals (vs ++ zs) (us ++ ws)
  | _, _, _, _, .nil, h => h
  | _, _, _, _, .cons h t, s => .cons h (vals_app t s)
theorem all_mk {l : PySem.W.OpenLaw} {w : World} {K : PySem.W.Frag} {h : Heap} {mg : Str → Option Value} {fa : Addr} {f1 : Addr} {f2 : Addr} {f3 : Addr} {f4 : Addr} {f6 : Addr} {f7 : Addr} {f8 : Addr} {f9 : Addr} {f10 : Addr} {f11 : Addr} {f12 : Addr} {f13 : Addr} {f14 : Addr} {f15 : Addr} {f16 : Addr} {f17 : Addr} {f18 : Addr} {f19 : Addr} {f20 : Addr} {f21 : Addr} {f23 : Addr} {f24 : Addr} {f25 : Addr} {f26 : Addr} {f27 : Addr} {f28 : Addr} {f29 : Addr} {f30 : Addr} {f31 : Addr} {f32 : Addr} {f33 : Addr} {f34 : Addr} {f35 : Addr} {f36 : Addr} {f37 : Addr} (X : K.In h) (G : h.Ns mainGlobals mg) (hfa : mg "law" = some (.ref fa))
    {od1 an1 od2 an2 od3 an3 od4 an4 od6 an6 od7 an7 od8 an8 od9 an9 od10 an10 od11 an11 od12 an12 od13 an13 od14 an14 od15 an15 od16 an16 od17 an17 od18 an18 od19 an19 od20 an20 od21 an21 od23 an23 od24 an24 od25 an25 od26 an26 od27 an27 od28 an28 od29 an29 od30 an30 od31 an31 od32 an32 od33 an33 od34 an34 od35 an35 od36 an36 od37 an37 : Option Addr} {sl1 sl2 sl3 sl4 sl6 sl7 sl8 sl9 sl10 sl11 sl12 sl13 sl14 sl15 sl16 sl17 sl18 sl19 sl20 sl21 sl23 sl24 sl25 sl26 sl27 sl28 sl29 sl30 sl31 sl32 sl33 sl34 sl35 sl36 sl37 : Array (Option Value)} {oc1 kV1 dc1 pm1 cd1 ct1 oc2 kV2 dc2 pm2 cd2 ct2 oc3 kV3 dc3 pm3 cd3 ct3 oc4 kV4 dc4 pm4 cd4 ct4 oc6 kV6 dc6 pm6 cd6 ct6 oc7 kV7 dc7 pm7 cd7 ct7 oc8 kV8 dc8 pm8 cd8 ct8 oc9 kV9 dc9 pm9 cd9 ct9 oc10 kV10 dc10 pm10 cd10 ct10 oc11 kV11 dc11 pm11 cd11 ct11 oc12 kV12 dc12 pm12 cd12 ct12 oc13 kV13 dc13 pm13 cd13 ct13 oc14 kV14 dc14 pm14 cd14 ct14 oc15 kV15 dc15 pm15 cd15 ct15 oc16 kV16 dc16 pm16 cd16 ct16 oc17 kV17 dc17 pm17 cd17 ct17 oc18 kV18 dc18 pm18 cd18 ct18 oc19 kV19 dc19 pm19 cd19 ct19 oc20 kV20 dc20 pm20 cd20 ct20 oc21 kV21 dc21 pm21 cd21 ct21 oc23 kV23 dc23 pm23 cd23 ct23 oc24 kV24 dc24 pm24 cd24 ct24 oc25 kV25 dc25 pm25 cd25 ct25 oc26 kV26 dc26 pm26 cd26 ct26 oc27 kV27 dc27 pm27 cd27 ct27 oc28 kV28 dc28 pm28 cd28 ct28 oc29 kV29 dc29 pm29 cd29 ct29 oc30 kV30 dc30 pm30 cd30 ct30 oc31 kV31 dc31 pm31 cd31 ct31 oc32 kV32 dc32 pm32 cd32 ct32 oc33 kV33 dc33 pm33 cd33 ct33 oc34 kV34 dc34 pm34 cd34 ct34 oc35 kV35 dc35 pm35 cd35 ct35 oc36 kV36 dc36 pm36 cd36 ct36 oc37 kV37 dc37 pm37 cd37 ct37 : Value}
    (a1 : PySem.W.nsIn K mainGlobals "end_of" = some (some (.ref f1))) (l1 : K.lookup f1 = some ⟨oc1, od1, .func (PySem.W.fnOf "end_of" "end_of" (defArgs (topS 1)) (defBody (topS 1)) (defScope (topS 1)) .none kV1 dc1 pm1 an1 cd1 ct1), sl1⟩) (c1 : PySem.W.codeIn K cd1 "end_of" = true) (k1 : PySem.W.keepIn K (.ref f1) = true)
    (a2 : PySem.W.nsIn K mainGlobals "turning" = some (some (.ref f2))) (l2 : K.lookup f2 = some ⟨oc2, od2, .func (PySem.W.fnOf "turning" "turning" (defArgs (topS 2)) (defBody (topS 2)) (defScope (topS 2)) .none kV2 dc2 pm2 an2 cd2 ct2), sl2⟩) (c2 : PySem.W.codeIn K cd2 "turning" = true) (k2 : PySem.W.keepIn K (.ref f2) = true)
    (a3 : PySem.W.nsIn K mainGlobals "loss" = some (some (.ref f3))) (l3 : K.lookup f3 = some ⟨oc3, od3, .func (PySem.W.fnOf "loss" "loss" (defArgs (topS 3)) (defBody (topS 3)) (defScope (topS 3)) .none kV3 dc3 pm3 an3 cd3 ct3), sl3⟩) (c3 : PySem.W.codeIn K cd3 "loss" = true) (k3 : PySem.W.keepIn K (.ref f3) = true)
    (a4 : PySem.W.nsIn K mainGlobals "emptied" = some (some (.ref f4))) (l4 : K.lookup f4 = some ⟨oc4, od4, .func (PySem.W.fnOf "emptied" "emptied" (defArgs (topS 4)) (defBody (topS 4)) (defScope (topS 4)) .none kV4 dc4 pm4 an4 cd4 ct4), sl4⟩) (c4 : PySem.W.codeIn K cd4 "emptied" = true) (k4 : PySem.W.keepIn K (.ref f4) = true)
    (a6 : PySem.W.nsIn K mainGlobals "without_ears" = some (some (.ref f6))) (l6 : K.lookup f6 = some ⟨oc6, od6, .func (PySem.W.fnOf "without_ears" "without_ears" (defArgs (topS 6)) (defBody (topS 6)) (defScope (topS 6)) .none kV6 dc6 pm6 an6 cd6 ct6), sl6⟩) (c6 : PySem.W.codeIn K cd6 "without_ears" = true) (k6 : PySem.W.keepIn K (.ref f6) = true)
    (a7 : PySem.W.nsIn K mainGlobals "ways_of" = some (some (.ref f7))) (l7 : K.lookup f7 = some ⟨oc7, od7, .func (PySem.W.fnOf "ways_of" "ways_of" (defArgs (topS 7)) (defBody (topS 7)) (defScope (topS 7)) .none kV7 dc7 pm7 an7 cd7 ct7), sl7⟩) (c7 : PySem.W.codeIn K cd7 "ways_of" = true) (k7 : PySem.W.keepIn K (.ref f7) = true)
    (a8 : PySem.W.nsIn K mainGlobals "begun_between" = some (some (.ref f8))) (l8 : K.lookup f8 = some ⟨oc8, od8, .func (PySem.W.fnOf "begun_between" "begun_between" (defArgs (topS 8)) (defBody (topS 8)) (defScope (topS 8)) .none kV8 dc8 pm8 an8 cd8 ct8), sl8⟩) (c8 : PySem.W.codeIn K cd8 "begun_between" = true) (k8 : PySem.W.keepIn K (.ref f8) = true)
    (a9 : PySem.W.nsIn K mainGlobals "first_states" = some (some (.ref f9))) (l9 : K.lookup f9 = some ⟨oc9, od9, .func (PySem.W.fnOf "first_states" "first_states" (defArgs (topS 9)) (defBody (topS 9)) (defScope (topS 9)) .none kV9 dc9 pm9 an9 cd9 ct9), sl9⟩) (c9 : PySem.W.codeIn K cd9 "first_states" = true) (k9 : PySem.W.keepIn K (.ref f9) = true)
    (a10 : PySem.W.nsIn K mainGlobals "may_take" = some (some (.ref f10))) (l10 : K.lookup f10 = some ⟨oc10, od10, .func (PySem.W.fnOf "may_take" "may_take" (defArgs (topS 10)) (defBody (topS 10)) (defScope (topS 10)) .none kV10 dc10 pm10 an10 cd10 ct10), sl10⟩) (c10 : PySem.W.codeIn K cd10 "may_take" = true) (k10 : PySem.W.keepIn K (.ref f10) = true)
    (a11 : PySem.W.nsIn K mainGlobals "moves_of" = some (some (.ref f11))) (l11 : K.lookup f11 = some ⟨oc11, od11, .func (PySem.W.fnOf "moves_of" "moves_of" (defArgs (topS 11)) (defBody (topS 11)) (defScope (topS 11)) .none kV11 dc11 pm11 an11 cd11 ct11), sl11⟩) (c11 : PySem.W.codeIn K cd11 "moves_of" = true) (k11 : PySem.W.keepIn K (.ref f11) = true)
    (a12 : PySem.W.nsIn K mainGlobals "gain_of" = some (some (.ref f12))) (l12 : K.lookup f12 = some ⟨oc12, od12, .func (PySem.W.fnOf "gain_of" "gain_of" (defArgs (topS 12)) (defBody (topS 12)) (defScope (topS 12)) .none kV12 dc12 pm12 an12 cd12 ct12), sl12⟩) (c12 : PySem.W.codeIn K cd12 "gain_of" = true) (k12 : PySem.W.keepIn K (.ref f12) = true)
    (a13 : PySem.W.nsIn K mainGlobals "amount_behind" = some (some (.ref f13))) (l13 : K.lookup f13 = some ⟨oc13, od13, .func (PySem.W.fnOf "amount_behind" "amount_behind" (defArgs (topS 13)) (defBody (topS 13)) (defScope (topS 13)) .none kV13 dc13 pm13 an13 cd13 ct13), sl13⟩) (c13 : PySem.W.codeIn K cd13 "amount_behind" = true) (k13 : PySem.W.keepIn K (.ref f13) = true)
    (a14 : PySem.W.nsIn K mainGlobals "states_behind" = some (some (.ref f14))) (l14 : K.lookup f14 = some ⟨oc14, od14, .func (PySem.W.fnOf "states_behind" "states_behind" (defArgs (topS 14)) (defBody (topS 14)) (defScope (topS 14)) .none kV14 dc14 pm14 an14 cd14 ct14), sl14⟩) (c14 : PySem.W.codeIn K cd14 "states_behind" = true) (k14 : PySem.W.keepIn K (.ref f14) = true)
    (a15 : PySem.W.nsIn K mainGlobals "reached" = some (some (.ref f15))) (l15 : K.lookup f15 = some ⟨oc15, od15, .func (PySem.W.fnOf "reached" "reached" (defArgs (topS 15)) (defBody (topS 15)) (defScope (topS 15)) .none kV15 dc15 pm15 an15 cd15 ct15), sl15⟩) (c15 : PySem.W.codeIn K cd15 "reached" = true) (k15 : PySem.W.keepIn K (.ref f15) = true)
    (a16 : PySem.W.nsIn K mainGlobals "sure_by" = some (some (.ref f16))) (l16 : K.lookup f16 = some ⟨oc16, od16, .func (PySem.W.fnOf "sure_by" "sure_by" (defArgs (topS 16)) (defBody (topS 16)) (defScope (topS 16)) .none kV16 dc16 pm16 an16 cd16 ct16), sl16⟩) (c16 : PySem.W.codeIn K cd16 "sure_by" = true) (k16 : PySem.W.keepIn K (.ref f16) = true)
    (a17 : PySem.W.nsIn K mainGlobals "sure_numbers" = some (some (.ref f17))) (l17 : K.lookup f17 = some ⟨oc17, od17, .func (PySem.W.fnOf "sure_numbers" "sure_numbers" (defArgs (topS 17)) (defBody (topS 17)) (defScope (topS 17)) .none kV17 dc17 pm17 an17 cd17 ct17), sl17⟩) (c17 : PySem.W.codeIn K cd17 "sure_numbers" = true) (k17 : PySem.W.keepIn K (.ref f17) = true)
    (a18 : PySem.W.nsIn K mainGlobals "sure_table" = some (some (.ref f18))) (l18 : K.lookup f18 = some ⟨oc18, od18, .func (PySem.W.fnOf "sure_table" "sure_table" (defArgs (topS 18)) (defBody (topS 18)) (defScope (topS 18)) .none kV18 dc18 pm18 an18 cd18 ct18), sl18⟩) (c18 : PySem.W.codeIn K cd18 "sure_table" = true) (k18 : PySem.W.keepIn K (.ref f18) = true)
    (a19 : PySem.W.nsIn K mainGlobals "sure_rule" = some (some (.ref f19))) (l19 : K.lookup f19 = some ⟨oc19, od19, .func (PySem.W.fnOf "sure_rule" "sure_rule" (defArgs (topS 19)) (defBody (topS 19)) (defScope (topS 19)) .none kV19 dc19 pm19 an19 cd19 ct19), sl19⟩) (c19 : PySem.W.codeIn K cd19 "sure_rule" = true) (k19 : PySem.W.keepIn K (.ref f19) = true)
    (a20 : PySem.W.nsIn K mainGlobals "is_sure_lower" = some (some (.ref f20))) (l20 : K.lookup f20 = some ⟨oc20, od20, .func (PySem.W.fnOf "is_sure_lower" "is_sure_lower" (defArgs (topS 20)) (defBody (topS 20)) (defScope (topS 20)) .none kV20 dc20 pm20 an20 cd20 ct20), sl20⟩) (c20 : PySem.W.codeIn K cd20 "is_sure_lower" = true) (k20 : PySem.W.keepIn K (.ref f20) = true)
    (a21 : PySem.W.nsIn K mainGlobals "is_sure_upper" = some (some (.ref f21))) (l21 : K.lookup f21 = some ⟨oc21, od21, .func (PySem.W.fnOf "is_sure_upper" "is_sure_upper" (defArgs (topS 21)) (defBody (topS 21)) (defScope (topS 21)) .none kV21 dc21 pm21 an21 cd21 ct21), sl21⟩) (c21 : PySem.W.codeIn K cd21 "is_sure_upper" = true) (k21 : PySem.W.keepIn K (.ref f21) = true)
    (a23 : PySem.W.nsIn K mainGlobals "_law_draws" = some (some (.ref f23))) (l23 : K.lookup f23 = some ⟨oc23, od23, .func (PySem.W.fnOf "_law_draws" "_law_draws" (defArgs (topS 23)) (defBody (topS 23)) (defScope (topS 23)) .none kV23 dc23 pm23 an23 cd23 ct23), sl23⟩) (c23 : PySem.W.codeIn K cd23 "_law_draws" = true) (k23 : PySem.W.keepIn K (.ref f23) = true)
    (a24 : PySem.W.nsIn K mainGlobals "_law_sky" = some (some (.ref f24))) (l24 : K.lookup f24 = some ⟨oc24, od24, .func (PySem.W.fnOf "_law_sky" "_law_sky" (defArgs (topS 24)) (defBody (topS 24)) (defScope (topS 24)) .none kV24 dc24 pm24 an24 cd24 ct24), sl24⟩) (c24 : PySem.W.codeIn K cd24 "_law_sky" = true) (k24 : PySem.W.keepIn K (.ref f24) = true)
    (a25 : PySem.W.nsIn K mainGlobals "_law_turn" = some (some (.ref f25))) (l25 : K.lookup f25 = some ⟨oc25, od25, .func (PySem.W.fnOf "_law_turn" "_law_turn" (defArgs (topS 25)) (defBody (topS 25)) (defScope (topS 25)) .none kV25 dc25 pm25 an25 cd25 ct25), sl25⟩) (c25 : PySem.W.codeIn K cd25 "_law_turn" = true) (k25 : PySem.W.keepIn K (.ref f25) = true)
    (a26 : PySem.W.nsIn K mainGlobals "_law_store" = some (some (.ref f26))) (l26 : K.lookup f26 = some ⟨oc26, od26, .func (PySem.W.fnOf "_law_store" "_law_store" (defArgs (topS 26)) (defBody (topS 26)) (defScope (topS 26)) .none kV26 dc26 pm26 an26 cd26 ct26), sl26⟩) (c26 : PySem.W.codeIn K cd26 "_law_store" = true) (k26 : PySem.W.keepIn K (.ref f26) = true)
    (a27 : PySem.W.nsIn K mainGlobals "_law_more_ears" = some (some (.ref f27))) (l27 : K.lookup f27 = some ⟨oc27, od27, .func (PySem.W.fnOf "_law_more_ears" "_law_more_ears" (defArgs (topS 27)) (defBody (topS 27)) (defScope (topS 27)) .none kV27 dc27 pm27 an27 cd27 ct27), sl27⟩) (c27 : PySem.W.codeIn K cd27 "_law_more_ears" = true) (k27 : PySem.W.keepIn K (.ref f27) = true)
    (a28 : PySem.W.nsIn K mainGlobals "_law_without" = some (some (.ref f28))) (l28 : K.lookup f28 = some ⟨oc28, od28, .func (PySem.W.fnOf "_law_without" "_law_without" (defArgs (topS 28)) (defBody (topS 28)) (defScope (topS 28)) .none kV28 dc28 pm28 an28 cd28 ct28), sl28⟩) (c28 : PySem.W.codeIn K cd28 "_law_without" = true) (k28 : PySem.W.keepIn K (.ref f28) = true)
    (a29 : PySem.W.nsIn K mainGlobals "_law_may" = some (some (.ref f29))) (l29 : K.lookup f29 = some ⟨oc29, od29, .func (PySem.W.fnOf "_law_may" "_law_may" (defArgs (topS 29)) (defBody (topS 29)) (defScope (topS 29)) .none kV29 dc29 pm29 an29 cd29 ct29), sl29⟩) (c29 : PySem.W.codeIn K cd29 "_law_may" = true) (k29 : PySem.W.keepIn K (.ref f29) = true)
    (a30 : PySem.W.nsIn K mainGlobals "_law_state" = some (some (.ref f30))) (l30 : K.lookup f30 = some ⟨oc30, od30, .func (PySem.W.fnOf "_law_state" "_law_state" (defArgs (topS 30)) (defBody (topS 30)) (defScope (topS 30)) .none kV30 dc30 pm30 an30 cd30 ct30), sl30⟩) (c30 : PySem.W.codeIn K cd30 "_law_state" = true) (k30 : PySem.W.keepIn K (.ref f30) = true)
    (a31 : PySem.W.nsIn K mainGlobals "_law_fates" = some (some (.ref f31))) (l31 : K.lookup f31 = some ⟨oc31, od31, .func (PySem.W.fnOf "_law_fates" "_law_fates" (defArgs (topS 31)) (defBody (topS 31)) (defScope (topS 31)) .none kV31 dc31 pm31 an31 cd31 ct31), sl31⟩) (c31 : PySem.W.codeIn K cd31 "_law_fates" = true) (k31 : PySem.W.keepIn K (.ref f31) = true)
    (a32 : PySem.W.nsIn K mainGlobals "_law_worst" = some (some (.ref f32))) (l32 : K.lookup f32 = some ⟨oc32, od32, .func (PySem.W.fnOf "_law_worst" "_law_worst" (defArgs (topS 32)) (defBody (topS 32)) (defScope (topS 32)) .none kV32 dc32 pm32 an32 cd32 ct32), sl32⟩) (c32 : PySem.W.codeIn K cd32 "_law_worst" = true) (k32 : PySem.W.keepIn K (.ref f32) = true)
    (a33 : PySem.W.nsIn K mainGlobals "_law_sure" = some (some (.ref f33))) (l33 : K.lookup f33 = some ⟨oc33, od33, .func (PySem.W.fnOf "_law_sure" "_law_sure" (defArgs (topS 33)) (defBody (topS 33)) (defScope (topS 33)) .none kV33 dc33 pm33 an33 cd33 ct33), sl33⟩) (c33 : PySem.W.codeIn K cd33 "_law_sure" = true) (k33 : PySem.W.keepIn K (.ref f33) = true)
    (a34 : PySem.W.nsIn K mainGlobals "_law_sure_worth" = some (some (.ref f34))) (l34 : K.lookup f34 = some ⟨oc34, od34, .func (PySem.W.fnOf "_law_sure_worth" "_law_sure_worth" (defArgs (topS 34)) (defBody (topS 34)) (defScope (topS 34)) .none kV34 dc34 pm34 an34 cd34 ct34), sl34⟩) (c34 : PySem.W.codeIn K cd34 "_law_sure_worth" = true) (k34 : PySem.W.keepIn K (.ref f34) = true)
    (a35 : PySem.W.nsIn K mainGlobals "_law_failings" = some (some (.ref f35))) (l35 : K.lookup f35 = some ⟨oc35, od35, .func (PySem.W.fnOf "_law_failings" "_law_failings" (defArgs (topS 35)) (defBody (topS 35)) (defScope (topS 35)) .none kV35 dc35 pm35 an35 cd35 ct35), sl35⟩) (c35 : PySem.W.codeIn K cd35 "_law_failings" = true) (k35 : PySem.W.keepIn K (.ref f35) = true)
    (a36 : PySem.W.nsIn K mainGlobals "_law_taken" = some (some (.ref f36))) (l36 : K.lookup f36 = some ⟨oc36, od36, .func (PySem.W.fnOf "_law_taken" "_law_taken" (defArgs (topS 36)) (defBody (topS 36)) (defScope (topS 36)) .none kV36 dc36 pm36 an36 cd36 ct36), sl36⟩) (c36 : PySem.W.codeIn K cd36 "_law_taken" = true) (k36 : PySem.W.keepIn K (.ref f36) = true)
    (a37 : PySem.W.nsIn K mainGlobals "law" = some (some (.ref f37))) (l37 : K.lookup f37 = some ⟨oc37, od37, .func (PySem.W.fnOf "law" "law" (defArgs (topS 37)) (defBody (topS 37)) (defScope (topS 37)) .none kV37 dc37 pm37 an37 cd37 ct37), sl37⟩) (c37 : PySem.W.codeIn K cd37 "law" = true) (k37 : PySem.W.keepIn K (.ref f37) = true)
    (z_len : PySem.W.nsIn K mainGlobals "len" = some none)
    (z_abs : PySem.W.nsIn K mainGlobals "abs" = some none)
    (z_int : PySem.W.nsIn K mainGlobals "int" = some none)
    (z_max : PySem.W.nsIn K mainGlobals "max" = some none)
    (z_min : PySem.W.nsIn K mainGlobals "min" = some none)
    (z_all : PySem.W.nsIn K mainGlobals "all" = some none)
    (z_any : PySem.W.nsIn K mainGlobals "any" = some none)
    (z_list : PySem.W.nsIn K mainGlobals "list" = some none)
    (z_tuple : PySem.W.nsIn K mainGlobals "tuple" = some none)
    (z_dict : PySem.W.nsIn K mainGlobals "dict" = some none)
    (z_sorted : PySem.W.nsIn K mainGlobals "sorted" = some none)
    (z_range : PySem.W.nsIn K mainGlobals "range" = some none)
    (z_reversed : PySem.W.nsIn K mainGlobals "reversed" = some none)
    : ∃ fd : FuncData, (∀ (s : Shared) (v : Value), BindsTo s fd ⟨[v], []⟩ [("_law_script", v)]) ∧ ∀ base : Heap, K.In base → base.Ns mainGlobals mg → FnOk l.prog w K mg base CX0 20 fa fd ["_law_script"] (spD ⟨K, l.prog, w⟩ false (s_law Sk.srt)) := by
  have e := hfa.symm.trans (PySem.W.mg_of X G a37)
  cases e
  have bi : Bi mg := ⟨PySem.W.mg_none_of X G z_len, PySem.W.mg_none_of X G z_abs, PySem.W.mg_none_of X G z_int, PySem.W.mg_none_of X G z_max, PySem.W.mg_none_of X G z_min, PySem.W.mg_none_of X G z_all, PySem.W.mg_none_of X G z_any, PySem.W.mg_none_of X G z_list, PySem.W.mg_none_of X G z_tuple, PySem.W.mg_none_of X G z_dict, PySem.W.mg_none_of X G z_sorted, PySem.W.mg_none_of X G z_range, PySem.W.mg_none_of X G z_reversed⟩
  have F1 := fun_mk (st := topS 1) l1 c1 k1
  have F2 := fun_mk (st := topS 2) l2 c2 k2
  have F3 := fun_mk (st := topS 3) l3 c3 k3
  have F4 := fun_mk (st := topS 4) l4 c4 k4
  have F6 := fun_mk (st := topS 6) l6 c6 k6
  have F7 := fun_mk (st := topS 7) l7 c7 k7
  have F8 := fun_mk (st := topS 8) l8 c8 k8
  have F9 := fun_mk (st := topS 9) l9 c9 k9
  have F10 := fun_mk (st := topS 10) l10 c10 k10
  have F11 := fun_mk (st := topS 11) l11 c11 k11
  have F12 := fun_mk (st := topS 12) l12 c12 k12
  have F13 := fun_mk (st := topS 13) l13 c13 k13
  have F14 := fun_mk (st := topS 14) l14 c14 k14
  have F15 := fun_mk (st := topS 15) l15 c15 k15
  have F16 := fun_mk (st := topS 16) l16 c16 k16
  have F17 := fun_mk (st := topS 17) l17 c17 k17
  have F18 := fun_mk (st := topS 18) l18 c18 k18
  have F19 := fun_mk (st := topS 19) l19 c19 k19
  have F20 := fun_mk (st := topS 20) l20 c20 k20
  have F21 := fun_mk (st := topS 21) l21 c21 k21
  have F23 := fun_mk (st := topS 23) l23 c23 k23
  have F24 := fun_mk (st := topS 24) l24 c24 k24
  have F25 := fun_mk (st := topS 25) l25 c25 k25
  have F26 := fun_mk (st := topS 26) l26 c26 k26
  have F27 := fun_mk (st := topS 27) l27 c27 k27
  have F28 := fun_mk (st := topS 28) l28 c28 k28
  have F29 := fun_mk (st := topS 29) l29 c29 k29
  have F30 := fun_mk (st := topS 30) l30 c30 k30
  have F31 := fun_mk (st := topS 31) l31 c31 k31
  have F32 := fun_mk (st := topS 32) l32 c32 k32
  have F33 := fun_mk (st := topS 33) l33 c33 k33
  have F34 := fun_mk (st := topS 34) l34 c34 k34
  have F35 := fun_mk (st := topS 35) l35 c35 k35
  have F36 := fun_mk (st := topS 36) l36 c36 k36
  have F37 := fun_mk (st := topS 37) l37 c37 k37
  refine ⟨_, fun s v => .of_eq (fd := PySem.W.fnOf "law" "law" (defArgs (topS 37)) (defBody (topS 37)) (defScope (topS 37)) .none kV37 dc37 pm37 an37 cd37 ct37) rfl, fun base _ _ => ?_⟩
  have h1 : DefU l.prog w K mg base 1 "end_of" ["sky", "look"] false s_end_of := ⟨_, _, ok_end_of F1 bi , PySem.W.mg_of X G a1, k1, F1.binds (ps := ["sky", "look"]) fun _ _ _ _ _ _ us hl => match us, hl with | [x0, x1], _ => rfl⟩
  have h2 : DefU l.prog w K mg base 1 "turning" ["sky", "first", "second"] false s_turning := ⟨_, _, ok_turning F2 bi , PySem.W.mg_of X G a2, k2, F2.binds (ps := ["sky", "first", "second"]) fun _ _ _ _ _ _ us hl => match us, hl with | [x0, x1, x2], _ => rfl⟩
  have h3 : DefU l.prog w K mg base 1 "loss" ["ears", "since", "until"] false s_loss := ⟨_, _, ok_loss F3 bi , PySem.W.mg_of X G a3, k3, F3.binds (ps := ["ears", "since", "until"]) fun _ _ _ _ _ _ us hl => match us, hl with | [x0, x1, x2], _ => rfl⟩
  have h4 : DefUK l.prog w K mg base 2 "emptied" 2 ["since", "until"] ["sky", "amount", "since", "until"] false s_emptied := ⟨_, _, ok_emptied F4 bi h3, PySem.W.mg_of X G a4, k4, ⟨fun s us ws _ h1 h2 => match us, ws, h1, h2 with | [x0, x1], [y0, y1], _, _ => .of_eq rfl, fun r1 r2 => vals_app r1 r2⟩⟩
  have h6 : DefU l.prog w K mg base 1 "without_ears" ["sky", "names"] false s_without_ears := ⟨_, _, ok_without_ears F6 bi , PySem.W.mg_of X G a6, k6, F6.binds (ps := ["sky", "names"]) fun _ _ _ _ _ _ us hl => match us, hl with | [x0, x1], _ => rfl⟩
  have h7 : DefU l.prog w K mg base 1 "ways_of" ["names", "failed", "most"] false (s_ways_of Sk.srt) := ⟨_, _, ok_ways_of F7 bi , PySem.W.mg_of X G a7, k7, F7.binds (ps := ["names", "failed", "most"]) fun _ _ _ _ _ _ us hl => match us, hl with | [x0, x1, x2], _ => rfl⟩
  have h8 : DefU l.prog w K mg base 1 "begun_between" ["sky", "since", "until"] false s_begun_between := ⟨_, _, ok_begun_between F8 bi , PySem.W.mg_of X G a8, k8, F8.binds (ps := ["sky", "since", "until"]) fun _ _ _ _ _ _ us hl => match us, hl with | [x0, x1, x2], _ => rfl⟩
  have h9 : DefUK l.prog w K mg base 2 "first_states" 1 ["most"] ["sky", "most"] true (s_first_states Sk.srt) := ⟨_, _, ok_first_states F9 bi h8 h7, PySem.W.mg_of X G a9, k9, ⟨fun s us ws _ h1 h2 => match us, ws, h1, h2 with | [x0], [y0], _, _ => .of_eq rfl, fun r1 r2 => vals_app r1 r2⟩⟩
  have h10 : DefU l.prog w K mg base 2 "may_take" ["sky", "state"] false s_may_take := ⟨_, _, ok_may_take F10 bi h1 h2, PySem.W.mg_of X G a10, k10, F10.binds (ps := ["sky", "state"]) fun _ _ _ _ _ _ us hl => match us, hl with | [x0, x1], _ => rfl⟩
  have h11 : DefU l.prog w K mg base 3 "moves_of" ["sky", "state"] false s_moves_of := ⟨_, _, ok_moves_of F11 bi h10, PySem.W.mg_of X G a11, k11, F11.binds (ps := ["sky", "state"]) fun _ _ _ _ _ _ us hl => match us, hl with | [x0, x1], _ => rfl⟩
  have h12 : DefU l.prog w K mg base 1 "gain_of" ["sky", "state", "move"] false s_gain_of := ⟨_, _, ok_gain_of F12 bi , PySem.W.mg_of X G a12, k12, F12.binds (ps := ["sky", "state", "move"]) fun _ _ _ _ _ _ us hl => match us, hl with | [x0, x1, x2], _ => rfl⟩
  have h13 : DefU l.prog w K mg base 3 "amount_behind" ["sky", "amount", "last", "since", "until"] false s_amount_behind := ⟨_, _, ok_amount_behind F13 bi h4 h1, PySem.W.mg_of X G a13, k13, F13.binds (ps := ["sky", "amount", "last", "since", "until"]) fun _ _ _ _ _ _ us hl => match us, hl with | [x0, x1, x2, x3, x4], _ => rfl⟩
  have h14 : DefUK l.prog w K mg base 4 "states_behind" 3 ["most"] ["sky", "state", "move", "most"] false (s_states_behind Sk.srt) := ⟨_, _, ok_states_behind F14 bi h7 h8 h13 h6, PySem.W.mg_of X G a14, k14, ⟨fun s us ws _ h1 h2 => match us, ws, h1, h2 with | [x0, x1, x2], [y0], _, _ => .of_eq rfl, fun r1 r2 => vals_app r1 r2⟩⟩
  have h15 : DefU l.prog w K mg base 5 "reached" ["sky", "most"] false (s_reached Sk.srt) := ⟨_, _, ok_reached F15 bi h9 h11 h14, PySem.W.mg_of X G a15, k15, F15.binds (ps := ["sky", "most"]) fun _ _ _ _ _ _ us hl => match us, hl with | [x0, x1], _ => rfl⟩
  have h16 : DefU l.prog w K mg base 5 "sure_by" ["sky", "state", "move", "numbers", "most"] false (s_sure_by Sk.srt) := ⟨_, _, ok_sure_by F16 bi h12 h14, PySem.W.mg_of X G a16, k16, F16.binds (ps := ["sky", "state", "move", "numbers", "most"]) fun _ _ _ _ _ _ us hl => match us, hl with | [x0, x1, x2, x3, x4], _ => rfl⟩
  have h17 : DefU l.prog w K mg base 6 "sure_numbers" ["sky", "most"] false (s_sure_numbers Sk.srt) := ⟨_, _, ok_sure_numbers F17 bi h15 h16 h11, PySem.W.mg_of X G a17, k17, F17.binds (ps := ["sky", "most"]) fun _ _ _ _ _ _ us hl => match us, hl with | [x0, x1], _ => rfl⟩
  have h18 : DefUK l.prog w K mg base 7 "sure_table" 1 ["most"] ["sky", "most"] false (s_sure_table Sk.srt) := ⟨_, _, ok_sure_table F18 bi h17, PySem.W.mg_of X G a18, k18, ⟨fun s us ws _ h1 h2 => match us, ws, h1, h2 with | [x0], [y0], _, _ => .of_eq rfl, fun r1 r2 => vals_app r1 r2⟩⟩
  have h19 : DefUK l.prog w K mg base 7 "sure_rule" 1 ["most"] ["sky", "most"] false (s_sure_rule Sk.srt) := ⟨_, _, ok_sure_rule F19 bi h17 h10 h16, PySem.W.mg_of X G a19, k19, ⟨fun s us ws _ h1 h2 => match us, ws, h1, h2 with | [x0], [y0], _, _ => .of_eq rfl, fun r1 r2 => vals_app r1 r2⟩⟩
  have h20 : DefUK l.prog w K mg base 6 "is_sure_lower" 2 ["most"] ["sky", "rows", "most"] false (s_is_sure_lower Sk.srt) := ⟨_, _, ok_is_sure_lower F20 bi h11 h14 h16 h9, PySem.W.mg_of X G a20, k20, ⟨fun s us ws _ h1 h2 => match us, ws, h1, h2 with | [x0, x1], [y0], _, _ => .of_eq rfl, fun r1 r2 => vals_app r1 r2⟩⟩
  have h21 : DefUK l.prog w K mg base 5 "is_sure_upper" 2 ["most"] ["sky", "rows", "most"] false (s_is_sure_upper Sk.srt) := ⟨_, _, ok_is_sure_upper F21 bi h9 h11 h14 h12, PySem.W.mg_of X G a21, k21, ⟨fun s us ws _ h1 h2 => match us, ws, h1, h2 with | [x0, x1], [y0], _, _ => .of_eq rfl, fun r1 r2 => vals_app r1 r2⟩⟩
  have h23 : DefU l.prog w K mg base 1 "_law_draws" ["_law_script", "_law_count"] false s_law_draws := ⟨_, _, ok_law_draws F23 bi , PySem.W.mg_of X G a23, k23, F23.binds (ps := ["_law_script", "_law_count"]) fun _ _ _ _ _ _ us hl => match us, hl with | [x0, x1], _ => rfl⟩
  have h24 : DefU l.prog w K mg base 1 "_law_sky" ["_law_draws_here", "_law_most"] false s_law_sky := ⟨_, _, ok_law_sky F24 bi , PySem.W.mg_of X G a24, k24, F24.binds (ps := ["_law_draws_here", "_law_most"]) fun _ _ _ _ _ _ us hl => match us, hl with | [x0, x1], _ => rfl⟩
  have h25 : DefU l.prog w K mg base 1 "_law_turn" ["_law_sky_here", "_law_first", "_law_second"] false s_law_turn := ⟨_, _, ok_law_turn F25 bi , PySem.W.mg_of X G a25, k25, F25.binds (ps := ["_law_sky_here", "_law_first", "_law_second"]) fun _ _ _ _ _ _ us hl => match us, hl with | [x0, x1, x2], _ => rfl⟩
  have h26 : DefU l.prog w K mg base 1 "_law_store" ["_law_sky_here", "_law_names", "_law_time"] false s_law_store := ⟨_, _, ok_law_store F26 bi , PySem.W.mg_of X G a26, k26, F26.binds (ps := ["_law_sky_here", "_law_names", "_law_time"]) fun _ _ _ _ _ _ us hl => match us, hl with | [x0, x1, x2], _ => rfl⟩
  have h27 : DefU l.prog w K mg base 1 "_law_more_ears" ["_law_sky_here", "_law_draws_here"] false s_law_more_ears := ⟨_, _, ok_law_more_ears F27 bi , PySem.W.mg_of X G a27, k27, F27.binds (ps := ["_law_sky_here", "_law_draws_here"]) fun _ _ _ _ _ _ us hl => match us, hl with | [x0, x1], _ => rfl⟩
  have h28 : DefU l.prog w K mg base 1 "_law_without" ["_law_sky_here", "_law_failing"] false s_law_without := ⟨_, _, ok_law_without F28 bi , PySem.W.mg_of X G a28, k28, F28.binds (ps := ["_law_sky_here", "_law_failing"]) fun _ _ _ _ _ _ us hl => match us, hl with | [x0, x1], _ => rfl⟩
  have h29 : DefU l.prog w K mg base 2 "_law_may" ["_law_sky_here", "_law_taken_here", "_law_look", "_law_failed"] false s_law_may := ⟨_, _, ok_law_may F29 bi h26 h25 h28, PySem.W.mg_of X G a29, k29, F29.binds (ps := ["_law_sky_here", "_law_taken_here", "_law_look", "_law_failed"]) fun _ _ _ _ _ _ us hl => match us, hl with | [x0, x1, x2, x3], _ => rfl⟩
  have h30 : DefU l.prog w K mg base 2 "_law_state" ["_law_sky_here", "_law_taken_here", "_law_look", "_law_failed"] false (s_law_state Sk.srt) := ⟨_, _, ok_law_state F30 bi h26 h28, PySem.W.mg_of X G a30, k30, F30.binds (ps := ["_law_sky_here", "_law_taken_here", "_law_look", "_law_failed"]) fun _ _ _ _ _ _ us hl => match us, hl with | [x0, x1, x2, x3], _ => rfl⟩
  have h31 : DefU l.prog w K mg base 1 "_law_fates" ["_law_sky_here", "_law_look", "_law_failed", "_law_most"] false s_law_fates := ⟨_, _, ok_law_fates F31 bi , PySem.W.mg_of X G a31, k31, F31.binds (ps := ["_law_sky_here", "_law_look", "_law_failed", "_law_most"]) fun _ _ _ _ _ _ us hl => match us, hl with | [x0, x1, x2, x3], _ => rfl⟩
  have bd32 : Binds K _ ["_law_sky_here", "_law_taken_here", "_law_look", "_law_failed", "_law_most"] [] := F32.binds (ps := ["_law_sky_here", "_law_taken_here", "_law_look", "_law_failed", "_law_most"]) fun _ _ _ _ _ _ us hl => match us, hl with | [x0, x1, x2, x3, x4], _ => rfl
  have bd33 : Binds K _ ["_law_sky_here", "_law_taken_here", "_law_look", "_law_failed", "_law_most"] [] := F33.binds (ps := ["_law_sky_here", "_law_taken_here", "_law_look", "_law_failed", "_law_most"]) fun _ _ _ _ _ _ us hl => match us, hl with | [x0, x1, x2, x3, x4], _ => rfl
  have both : ∀ n : Nat, DefU l.prog w K mg base (2 + n) "_law_worst" ["_law_sky_here", "_law_taken_here", "_law_look", "_law_failed", "_law_most"] false (s_law_worst n) ∧ DefU l.prog w K mg base (2 + n) "_law_sure" ["_law_sky_here", "_law_taken_here", "_law_look", "_law_failed", "_law_most"] false (s_law_sure n) := by
    intro n
    induction n with
    | zero => exact ⟨⟨_, _, none_left, PySem.W.mg_of X G a32, k32, bd32⟩, ⟨_, _, none_left, PySem.W.mg_of X G a33, k33, bd33⟩⟩
    | succ n ih => exact ⟨⟨_, _, ok_law_worst (k := 2 + n) (Nat.le_add_right _ _) F32 bi h31 ih.2, PySem.W.mg_of X G a32, k32, bd32⟩, ⟨_, _, ok_law_sure (k := 2 + n) (Nat.le_add_right _ _) F33 bi h29 ih.1, PySem.W.mg_of X G a33, k33, bd33⟩⟩
  have h32 := (both 16).1
  have h33 := (both 16).2
  have h34 : DefU l.prog w K mg base 19 "_law_sure_worth" ["_law_sky_here", "_law_most"] false s_law_sure_worth := ⟨_, _, ok_law_sure_worth F34 bi h33 h31, PySem.W.mg_of X G a34, k34, F34.binds (ps := ["_law_sky_here", "_law_most"]) fun _ _ _ _ _ _ us hl => match us, hl with | [x0, x1], _ => rfl⟩
  have h35 : DefU l.prog w K mg base 1 "_law_failings" ["_law_sky_here", "_law_most"] false (s_law_failings Sk.srt) := ⟨_, _, ok_law_failings F35 bi , PySem.W.mg_of X G a35, k35, F35.binds (ps := ["_law_sky_here", "_law_most"]) fun _ _ _ _ _ _ us hl => match us, hl with | [x0, x1], _ => rfl⟩
  have h36 : DefU l.prog w K mg base 3 "_law_taken" ["_law_sky_here", "_law_rule", "_law_failing"] false (s_law_taken Sk.srt) := ⟨_, _, ok_law_taken F36 bi h30 h29, PySem.W.mg_of X G a36, k36, F36.binds (ps := ["_law_sky_here", "_law_rule", "_law_failing"]) fun _ _ _ _ _ _ us hl => match us, hl with | [x0, x1, x2], _ => rfl⟩
  exact ok_law F37 bi h23 h27 h34 h35 h24 h18 h19 h36 h20 h30 h21
end Sk
open PySem PySem.W PyProof.Rows
set_option maxHeartbeats 0 in
theorem PySem.Challenge.cw_skypasses_k41_whole_lists_are_bounds_holds : PySem.Challenge.rw_skypasses_k41_whole_lists_are_bounds.Holds := by
  w_on; o_law; k_head; (case hw => w_witness2)
  k_fill
  refine L2.walk_of (l := PySem.Challenge.rw_skypasses_k41_whole_lists_are_bounds) (n := 63) (k := 20) (x := "_law_script") (CX := fun _ => L2.CX0) (sp := fun w => Sk.spD ⟨_, PySem.Challenge.rw_skypasses_k41_whole_lists_are_bounds.prog, w⟩ false (Sk.s_law Sk.srt)) rfl (by decide) rfl ⟨rfl, by decide, by decide⟩ (fun w h Y => PySem.W.kIn_of Y) ?F
    (fun _ H a ns hl _ hS => ⟨H, [.list (ns.map .int)], .bool true, Evl.Ex.refl H, .cons (.inl (.lst hS (Sk.dpI ns))) .nil, Sk.law_true ns hl, fun v B' H' g q => Sk.rp_bool q⟩) (fun _ _ _ _ _ h => h)
  case F =>
    intro w mg fa h KX G hmg
    refine' Sk.all_mk KX G hmg ?a1 ?l1 ?c1 ?k1 ?a2 ?l2 ?c2 ?k2 ?a3 ?l3 ?c3 ?k3 ?a4 ?l4 ?c4 ?k4 ?a6 ?l6 ?c6 ?k6 ?a7 ?l7 ?c7 ?k7 ?a8 ?l8 ?c8 ?k8 ?a9 ?l9 ?c9 ?k9 ?a10 ?l10 ?c10 ?k10 ?a11 ?l11 ?c11 ?k11 ?a12 ?l12 ?c12 ?k12 ?a13 ?l13 ?c13 ?k13 ?a14 ?l14 ?c14 ?k14 ?a15 ?l15 ?c15 ?k15 ?a16 ?l16 ?c16 ?k16 ?a17 ?l17 ?c17 ?k17 ?a18 ?l18 ?c18 ?k18 ?a19 ?l19 ?c19 ?k19 ?a20 ?l20 ?c20 ?k20 ?a21 ?l21 ?c21 ?k21 ?a23 ?l23 ?c23 ?k23 ?a24 ?l24 ?c24 ?k24 ?a25 ?l25 ?c25 ?k25 ?a26 ?l26 ?c26 ?k26 ?a27 ?l27 ?c27 ?k27 ?a28 ?l28 ?c28 ?k28 ?a29 ?l29 ?c29 ?k29 ?a30 ?l30 ?c30 ?k30 ?a31 ?l31 ?c31 ?k31 ?a32 ?l32 ?c32 ?k32 ?a33 ?l33 ?c33 ?k33 ?a34 ?l34 ?c34 ?k34 ?a35 ?l35 ?c35 ?k35 ?a36 ?l36 ?c36 ?k36 ?a37 ?l37 ?c37 ?k37 ?z_len ?z_abs ?z_int ?z_max ?z_min ?z_all ?z_any ?z_list ?z_tuple ?z_dict ?z_sorted ?z_range ?z_reversed
    (case a1 => k_is); (case l1 => k_is); (case c1 => k_is); (case k1 => k_is); (case a2 => k_is); (case l2 => k_is); (case c2 => k_is); (case k2 => k_is); (case a3 => k_is); (case l3 => k_is); (case c3 => k_is); (case k3 => k_is); (case a4 => k_is); (case l4 => k_is); (case c4 => k_is); (case k4 => k_is); (case a6 => k_is); (case l6 => k_is); (case c6 => k_is); (case k6 => k_is); (case a7 => k_is); (case l7 => k_is); (case c7 => k_is); (case k7 => k_is); (case a8 => k_is); (case l8 => k_is); (case c8 => k_is); (case k8 => k_is); (case a9 => k_is); (case l9 => k_is); (case c9 => k_is); (case k9 => k_is); (case a10 => k_is); (case l10 => k_is); (case c10 => k_is); (case k10 => k_is); (case a11 => k_is); (case l11 => k_is); (case c11 => k_is); (case k11 => k_is); (case a12 => k_is); (case l12 => k_is); (case c12 => k_is); (case k12 => k_is); (case a13 => k_is); (case l13 => k_is); (case c13 => k_is); (case k13 => k_is); (case a14 => k_is); (case l14 => k_is); (case c14 => k_is); (case k14 => k_is); (case a15 => k_is); (case l15 => k_is); (case c15 => k_is); (case k15 => k_is); (case a16 => k_is); (case l16 => k_is); (case c16 => k_is); (case k16 => k_is); (case a17 => k_is); (case l17 => k_is); (case c17 => k_is); (case k17 => k_is); (case a18 => k_is); (case l18 => k_is); (case c18 => k_is); (case k18 => k_is); (case a19 => k_is); (case l19 => k_is); (case c19 => k_is); (case k19 => k_is); (case a20 => k_is); (case l20 => k_is); (case c20 => k_is); (case k20 => k_is); (case a21 => k_is); (case l21 => k_is); (case c21 => k_is); (case k21 => k_is); (case a23 => k_is); (case l23 => k_is); (case c23 => k_is); (case k23 => k_is); (case a24 => k_is); (case l24 => k_is); (case c24 => k_is); (case k24 => k_is); (case a25 => k_is); (case l25 => k_is); (case c25 => k_is); (case k25 => k_is); (case a26 => k_is); (case l26 => k_is); (case c26 => k_is); (case k26 => k_is); (case a27 => k_is); (case l27 => k_is); (case c27 => k_is); (case k27 => k_is); (case a28 => k_is); (case l28 => k_is); (case c28 => k_is); (case k28 => k_is); (case a29 => k_is); (case l29 => k_is); (case c29 => k_is); (case k29 => k_is); (case a30 => k_is); (case l30 => k_is); (case c30 => k_is); (case k30 => k_is); (case a31 => k_is); (case l31 => k_is); (case c31 => k_is); (case k31 => k_is); (case a32 => k_is); (case l32 => k_is); (case c32 => k_is); (case k32 => k_is); (case a33 => k_is); (case l33 => k_is); (case c33 => k_is); (case k33 => k_is); (case a34 => k_is); (case l34 => k_is); (case c34 => k_is); (case k34 => k_is); (case a35 => k_is); (case l35 => k_is); (case c35 => k_is); (case k35 => k_is); (case a36 => k_is); (case l36 => k_is); (case c36 => k_is); (case k36 => k_is); (case a37 => k_is); (case l37 => k_is); (case c37 => k_is); (case k37 => k_is); (case z_len => k_is); (case z_abs => k_is); (case z_int => k_is); (case z_max => k_is); (case z_min => k_is); (case z_all => k_is); (case z_any => k_is); (case z_list => k_is); (case z_tuple => k_is); (case z_dict => k_is); (case z_sorted => k_is); (case z_range => k_is); (case z_reversed => k_is)
