import PyProof.Rows.All
import Wide.All
import OpenK.AllK
import Wide.FinOn
import HandS.ForMost
import HandS.Conv
import HandS.Flow
import HandS.TupAny
import HandS.Deep
import HandS.DictComp
import HandS.IsInst
import HandS.Dict
import HandS.Wide
import KE.SortData
import KE.DataEq
import KE.KRevSl
import HandS.Style
import HandS.Codes
import HandS.Set
import HandS.SetFor
import HandS.TupSets
import HandS.Strs
import KE.KeyNested
import KE.SortCalls
import HandS.TryOnly
import HandS.Defaults
import HandS.Ends
import HandS.HeadEnd
import HandS.HeadHook1
import HandS.HeadHook2
import HandS.HeadHook4
import KE.KStateDown
import HandS.Head0
import HandS.Head1
import HandS.Head2
import PySem.Challenge.RW_ledgerhouse_k81_judges_of_cuts
set_option autoImplicit false
namespace Q
open PySem
abbrev D := PyData
abbrev SL : Nat := 16777216

inductive Bop where | add | sub | mul | fdiv | mod | pow
  deriving DecidableEq
inductive Cop where | eq | ne | lt | le | gt | ge | inn | nin
  deriving DecidableEq
inductive Bf where | len | abs | int | str | list | tuple | sorted | max | min | sum | sset | lset
  deriving DecidableEq
inductive Ty where | int | bool | str | list | tuple
  deriving DecidableEq
inductive Mt where | index
  deriving DecidableEq
inductive Cm where | frz | own | scal
  deriving DecidableEq
inductive O where | dead | frz | own
  deriving DecidableEq
inductive P where | nm (i : Nat) | tp (is : List Nat)
  deriving DecidableEq

mutual
inductive E where
  | var (i : Nat) | non | bl (b : Bool) | int (i : Int) | str (x : Str)
  | neg (a : E) | bin (o : Bop) (a b : E) | cmp (o : Cop) (a b : E) | chn (o1 o2 : Cop) (a b c : E)
  | isN (a : E) (ng : Bool) | isB (a : E) (t ng : Bool)
  | and (a b : E) | or (a b : E) | not (a : E)
  | ix (a b : E) | slu (a u : E) | sll (a l : E) | slb (a l u : E) | rev (a : E) | st2 (a l : E)
  | tup (es : L) | lst (es : L) | dc0
  | call (m : Cm) (g : Str) (es : L) | bi (f : Bf) (a : E) | isi (a : E) (ts : List Ty) | mth (m : Mt) (a b : E)
  | lc (own : List Nat) (p : P) (it : E) (hc : Bool) (c e : E)
  | dc (own : List Nat) (p : P) (it k v : E)
  | rng1 (a : E) | rng2 (a b : E)
inductive L where
  | nil | cons (e : E) (r : L)
end
mutual
inductive S where
  | asg (i : Nat) (own : Bool) (e : E) | unp (is : List Nat) (e : E) | par (i j : Nat) (oi oj : Bool) (a b : E)
  | app (i : Nat) (e : E) | ext (i : Nat) (e : E) | put (i : Nat) (k v : E)
  | exp (e : E)
  | ite (c : E) (a b : B) | whl (inv : List O) (c : E) (b : B) | for_ (inv : List O) (p : P) (it : E) (b : B)
  | ret (e : E) | pass | brk | cnt | frz (i : Nat)
inductive B where
  | nil | cons (s : S) (r : B)
end
structure Fn where
  np : Nat
  nl : Nat
  body : B

def okD : Nat → D → Bool
  | _, .none => true
  | _, .bool _ => true
  | _, .int _ => true
  | _, .str _ => true
  | n + 1, .list xs => xs.all (okD n)
  | n + 1, .tuple xs => xs.all (okD n)
  | _, _ => false
def eqD (x y : D) : Option Bool := if okD 60 x && okD 60 y then some (PyData.eqv x y) else none
def tru : D → Option Bool
  | .bool b => some b
  | .none => some false
  | .int i => some (i != 0)
  | .list xs => some (!xs.isEmpty)
  | .tuple xs => some (!xs.isEmpty)
  | _ => none
def scalar : D → Bool
  | .none => true
  | .bool _ => true
  | .int _ => true
  | .str _ => true
  | _ => false
def gate {α : Type} (b : Bool) (x : α) : Option α := if b then some x else none
def binD : Bop → D → D → Option D
  | .add, .int i, .int j => some (.int (i + j))
  | .add, .list xs, .list ys => gate (decide (xs.length + ys.length ≤ SL)) (.list (xs ++ ys))
  | .add, .tuple xs, .tuple ys => gate (decide (xs.length + ys.length ≤ SL)) (.tuple (xs ++ ys))
  | .sub, .int i, .int j => some (.int (i - j))
  | .mul, .int i, .int j => gate ((decide (-(2 ^ 64) < i) && decide (i < 2 ^ 64)) || (decide (-(2 ^ 64) < j) && decide (j < 2 ^ 64))) (.int (i * j))
  | .mul, .list xs, .int j => gate (decide (xs.length ≤ 1000) && (decide (0 ≤ j) && decide (j ≤ 1000))) (.list (List.replicate j.toNat xs).flatten)
  | .fdiv, .int i, .int j => gate (decide (0 < j) && decide (j < 1073741824)) (.int (i / j))
  | .mod, .int i, .int j => gate (decide (0 < j)) (.int (i % j))
  | .pow, .int i, .int j => gate (decide (0 ≤ j) && (decide (j ≤ 1000000) && decide (i.natAbs < 2 ^ 64))) (.int (i ^ j.toNat))
  | _, _, _ => none
def keyOf : D → Option (Int ⊕ Str)
  | .int i => some (.inl i)
  | .str x => some (.inr x)
  | _ => none
def keyD : Int ⊕ Str → D
  | .inl i => .int i
  | .inr x => .str x
def dget (k : Int ⊕ Str) : List (D × D) → Option D
  | [] => none
  | (a, v) :: r => if keyOf a = some k then some v else dget k r
def dput (k : Int ⊕ Str) (v : D) (kvs : List (D × D)) : List (D × D) := if (dget k kvs).isSome then kvs.map (fun p => if keyOf p.1 = some k then (p.1, v) else p) else kvs ++ [(keyD k, v)]
def scrD (ns : List Int) : D := .dict [(.none, .list (ns.map .int))]
def isScr : D → Option (List D)
  | .dict [(.none, .list xs)] => some xs
  | _ => none
def inD (x : D) : D → Option Bool
  | .list ys => if okD 60 x && ys.all (okD 60) then some (ys.any fun z => PyData.eqv z x) else none
  | .tuple ys => if okD 60 x && ys.all (okD 60) then some (ys.any fun z => PyData.eqv z x) else none
  | .dict kvs => if (isScr (.dict kvs)).isSome then none else (keyOf x).map fun k => (dget k kvs).isSome
  | _ => none
def cmpD : Cop → D → D → Option Bool
  | .eq, x, y => eqD x y
  | .ne, x, y => (eqD x y).map not
  | .lt, .int i, .int j => some (decide (i < j))
  | .le, .int i, .int j => some (decide (i ≤ j))
  | .gt, .int i, .int j => some (decide (j < i))
  | .ge, .int i, .int j => some (decide (j ≤ i))
  | .inn, x, y => inD x y
  | .nin, x, y => (inD x y).map not
  | _, _, _ => none
def ixN (n : Nat) (i : Int) : Option Nat := if 0 ≤ i then (if i < n then some i.toNat else none) else if -(n : Int) ≤ i then some (i + n).toNat else none
def atD (xs : List D) (i : Int) : Option D := (ixN xs.length i).bind fun j => xs[j]?
def ixD : D → D → Option D
  | .list xs, .int i => atD xs i
  | .tuple xs, .int i => atD xs i
  | .dict kvs, k => if (isScr (.dict kvs)).isSome then none else (keyOf k).bind fun k => dget k kvs
  | _, _ => none
def sIx (n d : Nat) : Option Int → Nat
  | none => d
  | some i => if i < 0 then (i + n).toNat else min i.toNat n
def cutD (xs : List D) (lo hi : Option Int) : List D := (xs.drop (sIx xs.length 0 lo)).take (sIx xs.length xs.length hi - sIx xs.length 0 lo)
def slD (lo hi : Option Int) : D → Option D
  | .list xs => some (.list (cutD xs lo hi))
  | .tuple xs => some (.tuple (cutD xs lo hi))
  | d => (isScr d).map fun xs => .list (cutD xs lo hi)
def revD : D → Option D
  | .list xs => some (.list xs.reverse)
  | _ => none
def evens {α : Type} : List α → List α
  | [] => []
  | [a] => [a]
  | a :: _ :: r => a :: evens r
def st2D (lo : Int) : D → Option D
  | .list xs => gate (decide (0 ≤ lo)) (.list (evens (xs.drop lo.toNat)))
  | _ => none
def intsOf : List D → Option (List Int)
  | [] => some []
  | .int i :: r => (intsOf r).map (i :: ·)
  | _ :: _ => none
def alikeL (ds : List D) : Bool := ds.all fun d => ds.all fun e => PySem.W.alike d e
def sortT : D → Bool
  | .tuple (_ :: _) => true
  | _ => false
def sortO : D → Bool
  | .tuple _ => false
  | .none => false
  | _ => true
def sortD (ds : List D) : Option (List D) := gate (alikeL ds && ((ds.all sortT || ds.all sortO) && ds.all (okD 60))) (ds.mergeSort (PySem.W.dataLe false id))
def uins (i : Int) : List Int → List Int
  | [] => [i]
  | a :: r => if i < a then i :: a :: r else if i = a then a :: r else a :: uins i r
def usort (ns : List Int) : List Int := ns.foldr uins []
def imax : List Int → Option Int
  | [] => none
  | a :: r => some (r.foldl (fun m x => if m < x then x else m) a)
def imin : List Int → Option Int
  | [] => none
  | a :: r => some (r.foldl (fun m x => if x < m then x else m) a)
def hashN : Nat → D → Bool
  | _, .none => true
  | _, .bool _ => true
  | _, .int _ => true
  | _, .str _ => true
  | n + 1, .tuple xs => xs.all (hashN n)
  | _, _ => false
def biD : Bf → D → Option D
  | .len, .list xs => some (.int xs.length)
  | .len, .tuple xs => some (.int xs.length)
  | .abs, .int i => some (.int i.natAbs)
  | .int, .int i => some (.int i)
  | .int, .bool b => some (.int (if b then 1 else 0))
  | .str, .int i => gate (decide (0 ≤ i) && decide (i < 1000000000)) (.str (Str.ofString (toString i)))
  | .list, .list xs => some (.list xs)
  | .list, .tuple xs => some (.list xs)
  | .tuple, .list xs => some (.tuple xs)
  | .tuple, .tuple xs => some (.tuple xs)
  | .sorted, .list xs => (sortD xs).map .list
  | .max, .list xs => ((intsOf xs).bind imax).map .int
  | .min, .list xs => ((intsOf xs).bind imin).map .int
  | .sum, .list xs => (intsOf xs).map fun ns => .int ns.sum
  | .sset, .list [.tuple xs] => gate (hashN 8 (.tuple xs) && PySem.W.alike (.tuple xs) (.tuple xs)) (.list [.tuple xs])
  | .sset, .list xs => (intsOf xs).bind fun ns => gate (decide (ns.length ≤ 60)) (.list ((usort ns).map .int))
  | .lset, .list xs => (intsOf xs).bind fun ns => gate (decide (ns.length ≤ 60)) (.int (usort ns).length)
  | _, _ => none
def isTy : D → Ty → Bool
  | .int _, .int => true
  | .bool _, .int => true
  | .bool _, .bool => true
  | .str _, .str => true
  | .list _, .list => true
  | .tuple _, .tuple => true
  | _, _ => false
def indexD (xs : List D) (x : D) : Option D := if okD 60 x && xs.all (okD 60) then (xs.findIdx? fun z => PyData.eqv z x).map fun (i : Nat) => PyData.int (i : Int) else none
def itemsD : D → Option (List D)
  | .list xs => some xs
  | .tuple xs => some xs
  | _ => none
def rngD (i j : Int) : Option (List D) := gate (decide (-1000000000 ≤ i) && (decide (i ≤ 1000000000) && (decide (-1000000000 ≤ j) && (decide (j ≤ 1000000000) && decide (j - i ≤ 1000000))))) ((List.range (j - i).toNat).map fun k => .int (i + (k : Nat)))

abbrev Env := List (Option D)
def wipe (ρ : Env) : List Nat → Env
  | [] => ρ
  | i :: is => (wipe ρ is).set i none
def setAll : List Nat → List D → Env → Option Env
  | [], [], ρ => some ρ
  | i :: is, d :: ds, ρ => if i < ρ.length then setAll is ds (ρ.set i (some d)) else none
  | _, _, _ => none
def bindP : P → D → Env → Option Env
  | .nm i, d, ρ => if i < ρ.length then some (ρ.set i (some d)) else none
  | .tp is, .tuple ds, ρ => setAll is ds ρ
  | _, _, _ => none
def fmM (f : D → Option (Option D)) : List D → Option (List D)
  | [] => some []
  | x :: xs => (f x).bind fun
    | none => fmM f xs
    | some y => (fmM f xs).map (y :: ·)
abbrev Fns := Str → List D → Option D
section
variable (Φ : Fns)
mutual
def ev : E → Env → Option D
  | .var i, ρ => (ρ[i]?).join
  | .non, _ => some .none
  | .bl b, _ => some (.bool b)
  | .int i, _ => some (.int i)
  | .str x, _ => some (.str x)
  | .neg a, ρ => (ev a ρ).bind fun
    | .int i => some (.int (-i))
    | _ => none
  | .bin o a b, ρ => (ev a ρ).bind fun x => (ev b ρ).bind fun y => binD o x y
  | .cmp o a b, ρ => (ev a ρ).bind fun x => (ev b ρ).bind fun y => (cmpD o x y).map .bool
  | .chn o1 o2 a b c, ρ => (ev a ρ).bind fun x => (ev b ρ).bind fun y => (cmpD o1 x y).bind fun
    | true => (ev c ρ).bind fun z => (cmpD o2 y z).map .bool
    | false => some (.bool false)
  | .isN a ng, ρ => (ev a ρ).map fun
    | .none => .bool (!ng)
    | _ => .bool ng
  | .isB a t ng, ρ => (ev a ρ).bind fun
    | .bool b => some (.bool ((b == t) != ng))
    | _ => none
  | .and a b, ρ => (ev a ρ).bind fun x => (tru x).bind fun
    | true => ev b ρ
    | false => some x
  | .or a b, ρ => (ev a ρ).bind fun x => (tru x).bind fun
    | true => some x
    | false => ev b ρ
  | .not a, ρ => (ev a ρ).bind fun x => (tru x).map fun c => .bool (!c)
  | .ix a b, ρ => (ev a ρ).bind fun x => (ev b ρ).bind fun y => ixD x y
  | .slu a u, ρ => (ev a ρ).bind fun x => (ev u ρ).bind fun
    | .int i => slD none (some i) x
    | _ => none
  | .sll a l, ρ => (ev a ρ).bind fun x => (ev l ρ).bind fun
    | .int i => slD (some i) none x
    | _ => none
  | .slb a l u, ρ => (ev a ρ).bind fun x => (ev l ρ).bind fun
    | .int i => (ev u ρ).bind fun
      | .int j => slD (some i) (some j) x
      | _ => none
    | _ => none
  | .rev a, ρ => (ev a ρ).bind revD
  | .st2 a l, ρ => (ev a ρ).bind fun x => (ev l ρ).bind fun
    | .int i => st2D i x
    | _ => none
  | .tup es, ρ => (evL es ρ).bind fun ds => gate (decide (ds.length ≤ SL)) (.tuple ds)
  | .lst es, ρ => (evL es ρ).bind fun ds => gate (decide (ds.length ≤ SL)) (.list ds)
  | .dc0, _ => some (.dict [])
  | .call m g es, ρ => (evL es ρ).bind fun ds => (Φ g ds).bind fun d => match m with
    | .scal => gate (scalar d) d
    | _ => some d
  | .bi f a, ρ => (ev a ρ).bind (biD f)
  | .isi a ts, ρ => (ev a ρ).bind fun d => match d with
    | .dict _ => none
    | d => some (.bool (ts.any (isTy d)))
  | .mth .index a b, ρ => (ev a ρ).bind fun x => (ev b ρ).bind fun y => match x with
    | .list xs => indexD xs y
    | _ => none
  | .lc own p it hc c e, ρ => ((ev it ρ).bind itemsD).bind fun ds => (fmM (fun d => (bindP p d (wipe ρ own)).bind fun ρ1 =>
      (match hc with
      | true => (ev c ρ1).bind tru
      | false => some true).bind fun
        | true => (ev e ρ1).map some
        | false => some none) ds).map .list
  | .dc own p it k v, ρ => ((ev it ρ).bind itemsD).bind fun ds => (ds.foldlM (fun acc d => (bindP p d (wipe ρ own)).bind fun ρ1 =>
      (ev k ρ1).bind fun x => (keyOf x).bind fun q => (ev v ρ1).map fun y => dput q y acc) []).map .dict
  | .rng1 a, ρ => (ev a ρ).bind fun
    | .int j => (rngD 0 j).map .list
    | _ => none
  | .rng2 a b, ρ => (ev a ρ).bind fun
    | .int i => (ev b ρ).bind fun
      | .int j => (rngD i j).map .list
      | _ => none
    | _ => none
termination_by structural e => e
def evL : L → Env → Option (List D)
  | .nil, _ => some []
  | .cons e r, ρ => (ev e ρ).bind fun d => (evL r ρ).map (d :: ·)
termination_by structural es => es
end

inductive R where
  | nx (ρ : Env) | rt (d : D) | bk (ρ : Env) | ct (ρ : Env)
def stO (i : Nat) (d : D) (ρ : Env) : Option R := if i < ρ.length then some (.nx (ρ.set i (some d))) else none
def goF (p : P) (body : Env → Option R) : List D → Env → Option R
  | [], ρ => some (.nx ρ)
  | d :: ds, ρ => (bindP p d ρ).bind fun ρ1 => (body ρ1).bind fun
    | .nx ρ2 => goF p body ds ρ2
    | .ct ρ2 => goF p body ds ρ2
    | .bk ρ2 => some (.nx ρ2)
    | .rt v => some (.rt v)
def goW (c : Env → Option Bool) (body : Env → Option R) : Nat → Env → Option R
  | 0, _ => none
  | n + 1, ρ => (c ρ).bind fun
    | false => some (.nx ρ)
    | true => (body ρ).bind fun
      | .nx ρ2 => goW c body n ρ2
      | .ct ρ2 => goW c body n ρ2
      | .bk ρ2 => some (.nx ρ2)
      | .rt v => some (.rt v)
variable (W : Nat)
mutual
def ex : S → Env → Option R
  | .asg i _ e, ρ => (ev Φ e ρ).bind fun d => stO i d ρ
  | .unp is e, ρ => (ev Φ e ρ).bind fun d => (itemsD d).bind fun ds => (setAll is ds ρ).map .nx
  | .par i j _ _ a b, ρ => (ev Φ a ρ).bind fun x => (ev Φ b ρ).bind fun y => if i < ρ.length ∧ j < ρ.length then some (.nx ((ρ.set i (some x)).set j (some y))) else none
  | .app i e, ρ => (ev Φ e ρ).bind fun d => match (ρ[i]?).join with
    | some (.list xs) => if xs.length < SL then stO i (.list (xs ++ [d])) ρ else none
    | _ => none
  | .ext i e, ρ => (ev Φ e ρ).bind fun d => match (ρ[i]?).join, d with
    | some (.list xs), .list ys => if xs.length + ys.length ≤ SL then stO i (.list (xs ++ ys)) ρ else none
    | _, _ => none
  | .put i k v, ρ => (ev Φ v ρ).bind fun y => (ev Φ k ρ).bind fun x => match (ρ[i]?).join with
    | some (.dict kvs) => (keyOf x).bind fun q => if kvs.length < SL then stO i (.dict (dput q y kvs)) ρ else none
    | _ => none
  | .exp e, ρ => (ev Φ e ρ).map fun _ => .nx ρ
  | .ite c a b, ρ => ((ev Φ c ρ).bind tru).bind fun
    | true => exB a ρ
    | false => exB b ρ
  | .whl _ c b, ρ => goW (fun ρ => (ev Φ c ρ).bind tru) (exB b) W ρ
  | .for_ _ p it b, ρ => ((ev Φ it ρ).bind itemsD).bind fun ds => goF p (exB b) ds ρ
  | .ret e, ρ => (ev Φ e ρ).map .rt
  | .pass, ρ => some (.nx ρ)
  | .brk, ρ => some (.bk ρ)
  | .cnt, ρ => some (.ct ρ)
  | .frz _, ρ => some (.nx ρ)
termination_by structural s => s
def exB : B → Env → Option R
  | .nil, ρ => some (.nx ρ)
  | .cons s r, ρ => (ex s ρ).bind fun
    | .nx ρ2 => exB r ρ2
    | o => some o
termination_by structural b => b
end
def runB (f : Fn) (ds : List D) : Option D := if ds.length = f.np then
    (exB Φ W f.body (ds.map some ++ List.replicate (f.nl - f.np) none)).bind fun
      | .rt d => some d
      | .nx _ => some .none
      | _ => none
  else none
end
def runF (prog : Str → Option Fn) (W : Nat) : Nat → Fns
  | 0, _, _ => none
  | n + 1, g, ds => (prog g).bind fun f => runB (runF prog W n) W f ds
end Q
set_option autoImplicit false
set_option linter.all false
set_option maxRecDepth 100000
namespace Q
open PySem PySem.Spec PyProof.Rows L2
variable {K : PySem.W.Frag}

mutual
inductive Rp (K : PySem.W.Frag) (F : Hp) : V → D → Prop
  | non : Rp K F .non .none
  | bl (b : Bool) : Rp K F (.bl b) (.bool b)
  | int (i : Int) : Rp K F (.int i) (.int i)
  | str (x : Str) : Rp K F (.str x) (.str x)
  | lst {a : Addr} {vs : List V} {ds : List D} : F a = some (.lst vs) → RpL K F vs ds → Rp K F (.ref a) (.list ds)
  | tup {a : Addr} {vs : List V} {ds : List D} : SqT K F a vs → RpL K F vs ds → Rp K F (.ref a) (.tuple ds)
  | dct {a : Addr} {kvs : List (Key × V)} {ks : List (D × D)} : F a = some (.dK kvs) → RpK K F kvs ks → Rp K F (.ref a) (.dict ks)
  /-- the script, a list of ints that is not ours: as a sort of data of its own -/
  | scr {a : Addr} {ns : List Int} : SqL K F a (ns.map V.int) → Rp K F (.ref a) (scrD ns)
inductive RpL (K : PySem.W.Frag) (F : Hp) : List V → List D → Prop
  | nil : RpL K F [] []
  | cons {v : V} {vs : List V} {d : D} {ds : List D} : Rp K F v d → RpL K F vs ds → RpL K F (v :: vs) (d :: ds)
inductive RpK (K : PySem.W.Frag) (F : Hp) : List (Key × V) → List (D × D) → Prop
  | nil : RpK K F [] []
  | cons {k : Key} {v : V} {vs : List (Key × V)} {d : D} {ds : List (D × D)} : Rp K F v d → RpK K F vs ds → RpK K F ((k, v) :: vs) ((keyD k, d) :: ds)
end

section mono
variable {F F' : Hp}
theorem seqT_mono {a : Addr} {xs : List V} (s : Same F F') (h : SqT K F a xs) : SqT K F' a xs := by
  rcases h with h | h
  · rcases h with h | ⟨o, h⟩
    · exact .inl (.inl (s _ _ h))
    · exact .inl (.inr ⟨o, s _ _ h⟩)
  · exact .inr h
mutual
theorem Rp.mono (s : Same F F') : ∀ (d : D) (v : V), Rp K F v d → Rp K F' v d
  | .none, _, h => by cases h; exact .non
  | .bool b, _, h => by cases h; exact .bl b
  | .int i, _, h => by cases h; exact .int i
  | .str x, _, h => by cases h; exact .str x
  | .list ds, _, h => by
    cases h with
    | lst h1 h2 => exact .lst (s _ _ h1) (RpL.mono s ds _ h2)
  | .tuple ds, _, h => by
    cases h with
    | tup h1 h2 => exact .tup (seqT_mono s h1) (RpL.mono s ds _ h2)
  | .dict ks, _, h => by
    cases h with
    | dct h1 h2 => exact .dct (s _ _ h1) (RpK.mono s ks _ h2)
    | scr h1 => exact .scr (s.seq h1)
theorem RpL.mono (s : Same F F') : ∀ (ds : List D) (vs : List V), RpL K F vs ds → RpL K F' vs ds
  | [], _, h => by cases h; exact .nil
  | d :: ds, _, h => by
    cases h with
    | cons h1 h2 => exact .cons (Rp.mono s d _ h1) (RpL.mono s ds _ h2)
theorem RpK.mono (s : Same F F') : ∀ (ds : List (D × D)) (vs : List (Key × V)), RpK K F vs ds → RpK K F' vs ds
  | [], _, h => by cases h; exact .nil
  | (k, d) :: ds, _, h => by
    cases h with
    | cons h1 h2 => exact .cons (Rp.mono s d _ h1) (RpK.mono s ds _ h2)
end
end mono

section lists
variable {F : Hp}
theorem RpL.length : ∀ {vs : List V} {ds : List D}, RpL K F vs ds → vs.length = ds.length
  | _, _, .nil => rfl
  | _, _, .cons _ t => congrArg (· + 1) (RpL.length t)
theorem RpL.get : ∀ {vs : List V} {ds : List D} {i : Nat} {d : D}, RpL K F vs ds → ds[i]? = some d → ∃ v, vs[i]? = some v ∧ Rp K F v d
  | _, _, 0, _, .cons h _, e => by simp at e; subst e; exact ⟨_, rfl, h⟩
  | _, _, i + 1, _, .cons _ t, e => by
    obtain ⟨v, h1, h2⟩ := RpL.get (i := i) t (by simpa using e)
    exact ⟨v, by simpa using h1, h2⟩
  | _, _, _, _, .nil, e => by simp at e
theorem RpL.app : ∀ {vs ws : List V} {ds es : List D}, RpL K F vs ds → RpL K F ws es → RpL K F (vs ++ ws) (ds ++ es)
  | _, _, _, _, .nil, s => s
  | _, _, _, _, .cons h t, s => .cons h (RpL.app t s)
theorem RpL.take : ∀ {vs : List V} {ds : List D} (n : Nat), RpL K F vs ds → RpL K F (vs.take n) (ds.take n)
  | _, _, 0, _ => .nil
  | _, _, _ + 1, .nil => .nil
  | _, _, n + 1, .cons h t => .cons h (RpL.take n t)
theorem RpL.drop : ∀ {vs : List V} {ds : List D} (n : Nat), RpL K F vs ds → RpL K F (vs.drop n) (ds.drop n)
  | _, _, 0, h => h
  | _, _, _ + 1, .nil => .nil
  | _, _, n + 1, .cons _ t => RpL.drop n t
theorem RpL.one {v : V} {d : D} (h : Rp K F v d) : RpL K F [v] [d] := .cons h .nil
theorem RpL.rev : ∀ {vs : List V} {ds : List D}, RpL K F vs ds → RpL K F vs.reverse ds.reverse
  | _, _, .nil => .nil
  | _, _, .cons h t => by rw [List.reverse_cons, List.reverse_cons]; exact (RpL.rev t).app (.one h)
theorem RpL.rep {vs : List V} {ds : List D} (h : RpL K F vs ds) : ∀ n : Nat, RpL K F (List.replicate n vs).flatten (List.replicate n ds).flatten
  | 0 => .nil
  | n + 1 => by rw [List.replicate_succ, List.replicate_succ, List.flatten_cons, List.flatten_cons]; exact h.app (RpL.rep h n)
theorem RpL.nil_iff {vs : List V} {ds : List D} (h : RpL K F vs ds) : vs = [] ↔ ds = [] := by
  cases h with
  | nil => simp
  | cons _ _ => simp
theorem RpK.length : ∀ {vs : List (Key × V)} {ds : List (D × D)}, RpK K F vs ds → vs.length = ds.length
  | _, _, .nil => rfl
  | _, _, .cons _ t => congrArg (· + 1) (RpK.length t)
theorem RpL.ints : ∀ {vs : List V} {ds : List D} {ns : List Int}, RpL K F vs ds → intsOf ds = some ns → vs = ns.map V.int ∧ ds = ns.map PyData.int
  | _, [], _, .nil, e => by simp [intsOf] at e; subst e; exact ⟨rfl, rfl⟩
  | _, d :: ds, ns, .cons h t, e => by
    cases d with
    | int i =>
      cases h
      simp only [intsOf, Option.map_eq_some_iff] at e
      obtain ⟨ms, e1, e2⟩ := e
      subst e2
      obtain ⟨h1, h2⟩ := RpL.ints t e1
      exact ⟨by rw [h1]; rfl, by rw [h2]; rfl⟩
    | _ => simp [intsOf] at e
end lists

theorem okD_up : ∀ (n : Nat) (d : D), okD n d = true → okD (n + 1) d = true := by
  intro n
  induction n with
  | zero =>
    intro d h
    cases d <;> first | rfl | (simp [okD] at h)
  | succ n ih =>
    intro d h
    cases d with
    | list xs =>
      simp only [okD, List.all_eq_true] at h ⊢
      exact fun x hx => ih x (h x hx)
    | tuple xs =>
      simp only [okD, List.all_eq_true] at h ⊢
      exact fun x hx => ih x (h x hx)
    | dict _ => simp [okD] at h
    | _ => rfl
theorem okD_le {n m : Nat} (hnm : n ≤ m) {d : D} (h : okD n d = true) : okD m d = true := by
  obtain ⟨k, rfl⟩ := Nat.exists_eq_add_of_le hnm
  induction k with
  | zero => exact h
  | succ k ih => exact okD_up _ _ (ih (by omega))
theorem okD_plain : ∀ (n : Nat) (d : D), okD n d = true → d.plain = true ∧ d.depth ≤ n := by
  intro n
  induction n with
  | zero =>
    intro d h
    cases d <;> first | exact ⟨rfl, Nat.le_refl _⟩ | (simp [okD] at h)
  | succ n ih =>
    have all : ∀ xs : List D, (∀ x ∈ xs, okD n x = true) → PyData.plainAll xs = true ∧ PyData.depthAll xs ≤ n := by
      intro xs
      induction xs with
      | nil => intro _; exact ⟨rfl, Nat.zero_le _⟩
      | cons x xs ihx =>
        intro h
        obtain ⟨a1, a2⟩ := ih x (h x (by simp))
        obtain ⟨b1, b2⟩ := ihx fun y hy => h y (by simp [hy])
        refine ⟨?_, ?_⟩
        · simp only [PyData.plainAll, a1, b1, Bool.and_self]
        · simp only [PyData.depthAll]; omega
    intro d h
    cases d with
    | list xs =>
      simp only [okD, List.all_eq_true] at h
      obtain ⟨a1, a2⟩ := all xs h
      exact ⟨by simpa only [PyData.plain] using a1, by simp only [PyData.depth]; omega⟩
    | tuple xs =>
      simp only [okD, List.all_eq_true] at h
      obtain ⟨a1, a2⟩ := all xs h
      exact ⟨by simpa only [PyData.plain] using a1, by simp only [PyData.depth]; omega⟩
    | dict _ => simp [okD] at h
    | _ => exact ⟨rfl, Nat.zero_le _⟩
section
variable {F : Hp}
theorem Rp.dp : ∀ (n : Nat) (d : D) (v : V), okD n d = true → Rp K F v d → Dp K F v d := by
  intro n
  induction n with
  | zero =>
    intro d v h r
    cases r with
    | non => exact .non
    | bl b => exact .bl b
    | int i => exact .int i
    | str x => exact .str x
    | lst _ _ => simp [okD] at h
    | tup _ _ => simp [okD] at h
    | dct _ _ => simp [okD] at h
    | scr _ => simp [okD, scrD] at h
  | succ n ih =>
    have all : ∀ (ds : List D) (vs : List V), (∀ x ∈ ds, okD n x = true) → RpL K F vs ds → DpAll K F vs ds := by
      intro ds
      induction ds with
      | nil => intro vs _ r; cases r; exact .nil
      | cons d ds ihd =>
        intro vs h r
        cases r with
        | cons r1 r2 => exact .cons (ih d _ (h d (by simp)) r1) (ihd _ (fun x hx => h x (by simp [hx])) r2)
    intro d v h r
    cases r with
    | non => exact .non
    | bl b => exact .bl b
    | int i => exact .int i
    | str x => exact .str x
    | lst h1 h2 =>
      simp only [okD, List.all_eq_true] at h
      exact .lst (.inl (.inl h1)) (all _ _ h h2)
    | tup h1 h2 =>
      simp only [okD, List.all_eq_true] at h
      exact .tup h1 (all _ _ h h2)
    | dct _ _ => simp [okD] at h
    | scr _ => simp [okD, scrD] at h
theorem RpL.dp {n : Nat} : ∀ {ds : List D} {vs : List V}, (∀ x ∈ ds, okD n x = true) → RpL K F vs ds → DpAll K F vs ds
  | [], _, _, .nil => .nil
  | _ :: _, _, h, .cons r1 r2 => .cons (Rp.dp n _ _ (h _ (by simp)) r1) (RpL.dp (fun x hx => h x (by simp [hx])) r2)
end
theorem Dp_all_mono {H H' : Hp} (s : Same H H') : ∀ {vs : List V} {ds : List D}, (∀ v d, Dp K H v d → Dp K H' v d) → DpAll K H vs ds → DpAll K H' vs ds
  | _, _, _, .nil => .nil
  | _, _, f, .cons h t => .cons (f _ _ h) (Dp_all_mono s f t)

inductive Vw (K : PySem.W.Frag) (F H : Hp) : V → D → Prop
  | rp {v : V} {d : D} : Rp K F v d → Vw K F H v d
  | lst {a : Addr} {vs : List V} {ds : List D} : H a = some (.lst vs) → RpL K F vs ds → Vw K F H (.ref a) (.list ds)
  | dct {a : Addr} {kvs : List (Key × V)} {ks : List (D × D)} : H a = some (.dK kvs) → RpK K F kvs ks → Vw K F H (.ref a) (.dict ks)
structure Step (F H F' H' : Hp) : Prop where
  sub : Same F F'
  in_ : Same F' H'
  same : Same H H'
  new : ∀ a o, F' a = some o → F a = some o ∨ H a = none
theorem Step.refl {F H : Hp} (s : Same F H) : Step F H F H := ⟨.refl _, s, .refl _, fun _ _ h => .inl h⟩
theorem Step.trans {F H F1 H1 F2 H2 : Hp} (a : Step F H F1 H1) (b : Step F1 H1 F2 H2) : Step F H F2 H2 where
  sub := a.sub.trans b.sub
  in_ := b.in_
  same := a.same.trans b.same
  new := fun c o h => by
    rcases b.new c o h with h | h
    · exact a.new c o h
    · exact .inr (a.same.free h)
section
variable {F H F' H' : Hp}
theorem Vw.mono {v : V} {d : D} (s : Step F H F' H') (h : Vw K F H v d) : Vw K F' H' v d := by
  cases h with
  | rp h => exact .rp (h.mono s.sub)
  | lst h1 h2 => exact .lst (s.same _ _ h1) (h2.mono s.sub)
  | dct h1 h2 => exact .dct (s.same _ _ h1) (h2.mono s.sub)
theorem Vw.int {v : V} {i : Int} (h : Vw K F H v (.int i)) : v = .int i := by
  cases h with
  | rp h => cases h; rfl
theorem Vw.bool {v : V} {b : Bool} (h : Vw K F H v (.bool b)) : v = .bl b := by
  cases h with
  | rp h => cases h; rfl
theorem Vw.none_ {v : V} (h : Vw K F H v .none) : v = .non := by
  cases h with
  | rp h => cases h; rfl
theorem Vw.str {v : V} {x : Str} (h : Vw K F H v (.str x)) : v = .str x := by
  cases h with
  | rp h => cases h; rfl
theorem Vw.list {v : V} {ds : List D} (s : Same F H) (h : Vw K F H v (.list ds)) : ∃ a vs, v = .ref a ∧ H a = some (.lst vs) ∧ RpL K F vs ds := by
  cases h with
  | rp h =>
    cases h with
    | lst h1 h2 => exact ⟨_, _, rfl, s _ _ h1, h2⟩
  | lst h1 h2 => exact ⟨_, _, rfl, h1, h2⟩
theorem Vw.tuple {v : V} {ds : List D} (h : Vw K F H v (.tuple ds)) : ∃ a vs, v = .ref a ∧ SqT K F a vs ∧ RpL K F vs ds := by
  cases h with
  | rp h =>
    cases h with
    | tup h1 h2 => exact ⟨_, _, rfl, h1, h2⟩
theorem Vw.dict {v : V} {ks : List (D × D)} (s : Same F H) (h : Vw K F H v (.dict ks)) (n : isScr (.dict ks) = none) : ∃ a kvs, v = .ref a ∧ H a = some (.dK kvs) ∧ RpK K F kvs ks := by
  cases h with
  | rp h =>
    generalize e : (PyData.dict ks) = z at h
    cases h with
    | dct h1 h2 => cases e; exact ⟨_, _, rfl, s _ _ h1, h2⟩
    | scr h1 => rw [e] at n; simp [isScr, scrD] at n
    | _ => cases e
  | dct h1 h2 => exact ⟨_, _, rfl, h1, h2⟩
theorem Vw.scr {v : V} {d : D} {xs : List D} (s : Same F H) (h : Vw K F H v d) (n : isScr d = some xs) : ∃ (a : Addr) (ns : List Int), v = .ref a ∧ SqL K H a (ns.map V.int) ∧ xs = ns.map PyData.int := by
  cases h with
  | rp h =>
    cases h with
    | scr h1 => exact ⟨_, _, rfl, s.seq h1, by simpa [isScr, scrD] using n.symm⟩
    | dct h1 h2 =>
      cases h2 with
      | nil => simp [isScr] at n
      | cons h3 h4 =>
        rename_i k _ _ _ _
        cases k <;> cases h4 <;> simp [isScr, keyD] at n
    | _ => simp [isScr] at n
  | lst h1 h2 => simp [isScr] at n
  | dct h1 h2 =>
    cases h2 with
    | nil => simp [isScr] at n
    | cons h3 h4 =>
      rename_i k _ _ _ _
      cases k <;> cases h4 <;> simp [isScr, keyD] at n
theorem Vw.rpH {v : V} {d : D} (s : Same F H) (h : Vw K F H v d) : Rp K H v d := by
  cases h with
  | rp h => exact h.mono s
  | lst h1 h2 => exact .lst h1 (h2.mono s)
  | dct h1 h2 => exact .dct h1 (h2.mono s)
end
def cont : D → Bool
  | .list _ => true
  | .dict _ => true
  | _ => false
inductive Ow (K : PySem.W.Frag) (F : Hp) : HO → D → Prop
  | lst {vs : List V} {ds : List D} : RpL K F vs ds → Ow K F (.lst vs) (.list ds)
  | dct {kvs : List (Key × V)} {ks : List (D × D)} : RpK K F kvs ks → Ow K F (.dK kvs) (.dict ks)
def OwV (K : PySem.W.Frag) (F H : Hp) (v : V) (d : D) : Prop := (cont d = false → Rp K F v d) ∧ (cont d = true → ∃ p o, v = .ref p ∧ F p = none ∧ H p = some o ∧ Ow K F o d)
inductive M where | frz | own | pl (i : Nat)
  deriving DecidableEq
def Post (K : PySem.W.Frag) (m : M) (H : Hp) (σ : L2.St) (v : V) (d : D) (F' H' : Hp) : Prop :=
  match m with
  | .frz => Rp K F' v d
  | .own => OwV K F' H' v d ∧ ∀ p, v = .ref p → cont d = true → H p = none
  | .pl i => OwV K F' H' v d ∧ σ[i]? = some (some v)
section
variable {F H F' H' : Hp}
theorem Ow.mono {o : HO} {d : D} (s : Same F F') (h : Ow K F o d) : Ow K F' o d := by
  cases h with
  | lst h => exact .lst (h.mono s)
  | dct h => exact .dct (h.mono s)
theorem Ow.vw {p : Addr} {o : HO} {d : D} (hp : H p = some o) (h : Ow K F o d) : Vw K F H (.ref p) d := by
  cases h with
  | lst h => exact .lst hp h
  | dct h => exact .dct hp h
theorem Ow.rp {p : Addr} {o : HO} {d : D} (hp : F p = some o) (h : Ow K F o d) : Rp K F (.ref p) d := by
  cases h with
  | lst h => exact .lst hp h
  | dct h => exact .dct hp h
theorem OwV.vw {v : V} {d : D} (h : OwV K F H v d) : Vw K F H v d := by
  cases e : cont d with
  | false => exact .rp (h.1 e)
  | true =>
    obtain ⟨p, o, rfl, _, hp, ow⟩ := h.2 e
    exact ow.vw hp
theorem Post.vw {m : M} {σ : L2.St} {v : V} {d : D} {H0 : Hp} (h : Post K m H0 σ v d F H) : Vw K F H v d := by
  cases m with
  | frz => exact .rp h
  | own => exact h.1.vw
  | pl i => exact h.1.vw
theorem same_upd' {F : Hp} {p : Addr} {o : HO} (h : F p = none) : Same F (upd F p o) := fun b u e => by
  rw [upd_ne (ne_of_none e h)]; exact e
theorem OwV.freeze {v : V} {d : D} (s : Step F H F' H') (h : OwV K F' H' v d) (n : ∀ p, v = .ref p → cont d = true → H p = none) : ∃ F2, Step F H F2 H' ∧ Same F' F2 ∧ Rp K F2 v d := by
  cases e : cont d with
  | false => exact ⟨F', s, .refl _, h.1 e⟩
  | true =>
    obtain ⟨p, o, rfl, hF, hp, ow⟩ := h.2 e
    have su : Same F' (upd F' p o) := same_upd' hF
    refine ⟨upd F' p o, ⟨s.sub.trans su, fun b u q => ?_, s.same, fun b u q => ?_⟩, su, (ow.mono su).rp upd_same⟩
    · by_cases hb : b = p
      · subst hb; rw [upd_same] at q; cases q; exact hp
      · rw [upd_ne hb] at q; exact s.in_ _ _ q
    · by_cases hb : b = p
      · subst hb; exact .inr (n _ rfl e)
      · rw [upd_ne hb] at q; exact s.new _ _ q
end
theorem post_list {F H : Hp} {σ : L2.St} {p : Addr} {vs : List V} {ds : List D} (s : Same F H) (hp : H p = none) (h : RpL K F vs ds) :
    Step F H F (upd H p (.lst vs)) ∧ Post K .own H σ (.ref p) (.list ds) F (upd H p (.lst vs)) := by
  have su : Same H (upd H p (.lst vs)) := same_upd' hp
  exact ⟨⟨.refl _, s.trans su, su, fun _ _ h => .inl h⟩, ⟨fun e => by simp [cont] at e, fun _ => ⟨p, _, rfl, s.free hp, upd_same, .lst h⟩⟩, fun q e _ => by cases e; exact hp⟩
theorem post_dict {F H : Hp} {σ : L2.St} {p : Addr} {vs : List (Key × V)} {ds : List (D × D)} (s : Same F H) (hp : H p = none) (h : RpK K F vs ds) :
    Step F H F (upd H p (.dK vs)) ∧ Post K .own H σ (.ref p) (.dict ds) F (upd H p (.dK vs)) := by
  have su : Same H (upd H p (.dK vs)) := same_upd' hp
  exact ⟨⟨.refl _, s.trans su, su, fun _ _ h => .inl h⟩, ⟨fun e => by simp [cont] at e, fun _ => ⟨p, _, rfl, s.free hp, upd_same, .dct h⟩⟩, fun q e _ => by cases e; exact hp⟩
theorem post_tup {F H : Hp} {p : Addr} {vs : List V} {ds : List D} (s : Same F H) (hp : H p = none) (h : RpL K F vs ds) :
    Step F H (upd F p (.tup vs)) (upd H p (.tup vs)) ∧ Rp K (upd F p (.tup vs)) (.ref p) (.tuple ds) := by
  have hF := s.free hp
  have su : Same H (upd H p (.tup vs)) := same_upd' hp
  have sf : Same F (upd F p (.tup vs)) := same_upd' hF
  refine ⟨⟨sf, fun b u q => ?_, su, fun b u q => ?_⟩, .tup (.inl (.inl upd_same)) (h.mono sf)⟩
  · by_cases hb : b = p
    · subst hb; rw [upd_same] at q ⊢; exact q
    · rw [upd_ne hb] at q ⊢; exact s _ _ q
  · by_cases hb : b = p
    · subst hb; exact .inr hp
    · rw [upd_ne hb] at q; exact .inl q
theorem post_own {H F' H' : Hp} {σ : L2.St} {v : V} {d : D} (e : cont d = false) (h : Rp K F' v d) : Post K .own H σ v d F' H' := ⟨⟨fun _ => h, fun z => by rw [e] at z; cases z⟩, fun _ _ z => by rw [e] at z; cases z⟩
end Q
set_option autoImplicit false
set_option linter.all false
set_option maxRecDepth 100000
set_option maxHeartbeats 4000000
namespace Q
open PySem PySem.Spec PyProof.Rows L2
variable {X : Cx} {K : PySem.W.Frag}
def rB (K : PySem.W.Frag) (g : D → D → Option D) : R2 := fun x y H Q => ∃ F dx dy d, Same F H ∧ Vw K F H x dx ∧ Vw K F H y dy ∧ g dx dy = some d ∧ ∀ v F' H', Step F H F' H' → Post K .own H [] v d F' H' → Q v H'
def rC (K : PySem.W.Frag) (g : D → D → Option Bool) : R2 := fun x y H Q => ∃ F dx dy b, Same F H ∧ Vw K F H x dx ∧ Vw K F H y dy ∧ g dx dy = some b ∧ Q (.bl b) H
theorem gate_some {α : Type} {b : Bool} {x y : α} (h : gate b x = some y) : b = true ∧ x = y := by
  unfold gate at h
  cases b with
  | true => exact ⟨rfl, Option.some.inj h⟩
  | false => cases h
theorem sl_eq : sizeLine = SL := sizeLine_eq
section
theorem opb_add : OpR X (binaryOp .Add) (rB X.K (binD .add)) := by
  intro pins s σ H x y v u Q I rx ry h
  obtain ⟨F, dx, dy, d, sF, hx, hy, e, q⟩ := h
  cases dx with
  | int i =>
    cases dy with
    | int j =>
      simp only [binD, Option.some.injEq] at e
      subst e
      have e1 := hx.int; have e2 := hy.int
      subst e1; subst e2
      exact op_add pins s σ H _ _ v u Q I rx ry ⟨i, j, rfl, rfl, q _ F H (.refl sF) (post_own rfl (.int _))⟩
    | _ => simp [binD] at e
  | list xs =>
    cases dy with
    | list ys =>
      obtain ⟨e1, e2⟩ := gate_some (show gate _ _ = some d from e)
      subst e2
      obtain ⟨a, vs, rfl, ha, ra⟩ := hx.list sF
      obtain ⟨b, ws, rfl, hb, rb⟩ := hy.list sF
      refine op_cat pins s σ H _ _ v u Q I rx ry ⟨a, b, vs, ws, rfl, rfl, ha, hb, ?_, fun p hp => ?_⟩
      · rw [ra.length, rb.length, sl_eq]; exact of_decide_eq_true e1
      · obtain ⟨s1, p1⟩ := post_list (K := X.K) (σ := []) sF hp (ra.app rb)
        exact q _ _ _ s1 p1
    | _ => simp [binD] at e
  | tuple xs =>
    cases dy with
    | tuple ys =>
      obtain ⟨e1, e2⟩ := gate_some (show gate _ _ = some d from e)
      subst e2
      obtain ⟨a, vs, rfl, ha, ra⟩ := hx.tuple
      obtain ⟨b, ws, rfl, hb, rb⟩ := hy.tuple
      refine op_catA pins s σ H _ _ v u Q I rx ry ⟨a, b, vs, ws, rfl, rfl, seqT_mono sF ha, seqT_mono sF hb, ?_, fun z => ?_, fun _ z => ?_, fun _ _ p hp => ?_⟩
      · rw [ra.length, rb.length, sl_eq]; exact of_decide_eq_true e1
      · have z2 : xs = [] := ra.nil_iff.mp z
        rw [z2, List.nil_append] at q
        exact q _ F H (.refl sF) (post_own rfl (.tup hb rb))
      · have z2 : ys = [] := rb.nil_iff.mp z
        rw [z2, List.append_nil] at q
        exact q _ F H (.refl sF) (post_own rfl (.tup ha ra))
      · obtain ⟨s1, p1⟩ := post_tup (K := X.K) sF hp (ra.app rb)
        exact q _ _ _ s1 (post_own rfl p1)
    | _ => simp [binD] at e
  | _ => simp [binD] at e
theorem opb_sub : OpR X (binaryOp .Sub) (rB X.K (binD .sub)) := by
  intro pins s σ H x y v u Q I rx ry h
  obtain ⟨F, dx, dy, d, sF, hx, hy, e, q⟩ := h
  cases dx with
  | int i =>
    cases dy with
    | int j =>
      simp only [binD, Option.some.injEq] at e
      subst e
      have e1 := hx.int; have e2 := hy.int
      subst e1; subst e2
      exact op_sub pins s σ H _ _ v u Q I rx ry ⟨i, j, rfl, rfl, q _ F H (.refl sF) (post_own rfl (.int _))⟩
    | _ => simp [binD] at e
  | _ => simp [binD] at e
theorem opb_mul : OpR X (binaryOp .Mult) (rB X.K (binD .mul)) := by
  intro pins s σ H x y v u Q I rx ry h
  obtain ⟨F, dx, dy, d, sF, hx, hy, e, q⟩ := h
  cases dx with
  | int i =>
    cases dy with
    | int j =>
      obtain ⟨e1, e2⟩ := gate_some (show gate _ _ = some d from e)
      subst e2
      have e3 := hx.int; have e4 := hy.int
      subst e3; subst e4
      simp only [Bool.or_eq_true, Bool.and_eq_true, decide_eq_true_eq] at e1
      exact op_mul pins s σ H _ _ v u Q I rx ry ⟨i, j, rfl, rfl, e1, q _ F H (.refl sF) (post_own rfl (.int _))⟩
    | _ => simp [binD] at e
  | list xs =>
    cases dy with
    | int j =>
      obtain ⟨e1, e2⟩ := gate_some (show gate _ _ = some d from e)
      subst e2
      simp only [Bool.and_eq_true, decide_eq_true_eq] at e1
      obtain ⟨b1, b2, b3⟩ := e1
      have e4 := hy.int
      subst e4
      obtain ⟨a, vs, rfl, ha, ra⟩ := hx.list sF
      refine op_rep pins s σ H _ _ v u Q I rx ry ⟨a, j, vs, rfl, rfl, ha, by omega, by omega, ?_, fun p hp => ?_⟩
      · rw [ra.length, sl_eq]
        have : xs.length * j.toNat ≤ 1000 * 1000 := Nat.mul_le_mul b1 (by omega)
        show _ ≤ 16777216
        omega
      · obtain ⟨s1, p1⟩ := post_list (K := X.K) (σ := []) sF hp (ra.rep j.toNat)
        exact q _ _ _ s1 p1
    | _ => simp [binD] at e
  | _ => simp [binD] at e
theorem opb_fdiv : OpR X (binaryOp .FloorDiv) (rB X.K (binD .fdiv)) := by
  intro pins s σ H x y v u Q I rx ry h
  obtain ⟨F, dx, dy, d, sF, hx, hy, e, q⟩ := h
  cases dx with
  | int i =>
    cases dy with
    | int j =>
      obtain ⟨e1, e2⟩ := gate_some (show gate _ _ = some d from e)
      subst e2
      have e3 := hx.int; have e4 := hy.int
      subst e3; subst e4
      simp only [Bool.and_eq_true, decide_eq_true_eq] at e1
      exact op_fdiv pins s σ H _ _ v u Q I rx ry ⟨i, j, rfl, rfl, e1, q _ F H (.refl sF) (post_own rfl (.int _))⟩
    | _ => simp [binD] at e
  | _ => simp [binD] at e
theorem opb_mod : OpR X (binaryOp .Mod) (rB X.K (binD .mod)) := by
  intro pins s σ H x y v u Q I rx ry h
  obtain ⟨F, dx, dy, d, sF, hx, hy, e, q⟩ := h
  cases dx with
  | int i =>
    cases dy with
    | int j =>
      obtain ⟨e1, e2⟩ := gate_some (show gate _ _ = some d from e)
      subst e2
      have e3 := hx.int; have e4 := hy.int
      subst e3; subst e4
      exact op_mod pins s σ H _ _ v u Q I rx ry ⟨i, j, rfl, rfl, of_decide_eq_true e1, q _ F H (.refl sF) (post_own rfl (.int _))⟩
    | _ => simp [binD] at e
  | _ => simp [binD] at e
theorem opb_pow : OpR X (binaryOp .Pow) (rB X.K (binD .pow)) := by
  intro pins s σ H x y v u Q I rx ry h
  obtain ⟨F, dx, dy, d, sF, hx, hy, e, q⟩ := h
  cases dx with
  | int i =>
    cases dy with
    | int j =>
      obtain ⟨e1, e2⟩ := gate_some (show gate _ _ = some d from e)
      subst e2
      have e3 := hx.int; have e4 := hy.int
      subst e3; subst e4
      simp only [Bool.and_eq_true, decide_eq_true_eq] at e1
      exact op_pow pins s σ H _ _ v u Q I rx ry ⟨i, j, rfl, rfl, e1, q _ F H (.refl sF) (post_own rfl (.int _))⟩
    | _ => simp [binD] at e
  | _ => simp [binD] at e
def bopOf : Bop → Operator
  | .add => .Add | .sub => .Sub | .mul => .Mult | .fdiv => .FloorDiv | .mod => .Mod | .pow => .Pow
theorem op_bin (o : Bop) : OpR X (binaryOp (bopOf o)) (rB X.K (binD o)) := by
  cases o with
  | add => exact opb_add
  | sub => exact opb_sub
  | mul => exact opb_mul
  | fdiv => exact opb_fdiv
  | mod => exact opb_mod
  | pow => exact opb_pow
end

section
theorem okD_dpH {F H : Hp} {v : V} {d : D} (s : Same F H) (h : Vw K F H v d) (e : okD 60 d = true) : Dp K H v d := Rp.dp 60 d v e (h.rpH s)
theorem opc_eq (hu : X.A.units + 64 < cLine) : OpR X (compareOp .Eq) (rC X.K (cmpD .eq)) := by
  intro pins s σ H x y v u Q I rx ry h
  obtain ⟨F, dx, dy, b, sF, hx, hy, e, q⟩ := h
  have e : eqD dx dy = some b := by cases dx <;> cases dy <;> exact e
  unfold eqD at e
  split at e
  · rename_i c
    rw [Bool.and_eq_true] at c
    obtain ⟨as, r1⟩ := Dp.reads I dx x v (okD_dpH sF hx c.1) rx
    obtain ⟨bs, r2⟩ := Dp.reads I dy y u (okD_dpH sF hy c.2) ry
    obtain ⟨p1, p2⟩ := okD_plain _ _ c.1
    obtain ⟨p3, p4⟩ := okD_plain _ _ c.2
    cases e
    refine PySem.SeqAt.eq_plain r1 r2 p1 p3 ?_ ⟨.bl _, H, I, rfl, q⟩
    have : min dx.depth dy.depth ≤ dx.depth := Nat.min_le_left _ _
    omega
  · cases e
theorem opc_ne (hu : X.A.units + 64 < cLine) : OpR X (compareOp .NotEq) (rC X.K (cmpD .ne)) := by
  intro pins s σ H x y v u Q I rx ry h
  obtain ⟨F, dx, dy, b, sF, hx, hy, e, q⟩ := h
  have e : (eqD dx dy).map not = some b := by cases dx <;> cases dy <;> exact e
  unfold eqD at e
  split at e
  · rename_i c
    rw [Bool.and_eq_true] at c
    obtain ⟨as, r1⟩ := Dp.reads I dx x v (okD_dpH sF hx c.1) rx
    obtain ⟨bs, r2⟩ := Dp.reads I dy y u (okD_dpH sF hy c.2) ry
    obtain ⟨p1, p2⟩ := okD_plain _ _ c.1
    obtain ⟨p3, p4⟩ := okD_plain _ _ c.2
    cases e
    refine PySem.SeqAt.ne_plain r1 r2 p1 p3 ?_ ⟨.bl _, H, I, rfl, q⟩
    have : min dx.depth dy.depth ≤ dx.depth := Nat.min_le_left _ _
    omega
  · cases e
theorem opc_int {op : CmpOp} {o : Cop} {p : Int → Int → Bool} (h0 : OpR X (compareOp op) (rI0 fun i j => .bl (p i j))) (hp : ∀ i j, cmpD o (.int i) (.int j) = some (p i j))
    (hn : ∀ x y b, cmpD o x y = some b → ∃ i j, x = .int i ∧ y = .int j) : OpR X (compareOp op) (rC X.K (cmpD o)) := by
  intro pins s σ H x y v u Q I rx ry h
  obtain ⟨F, dx, dy, b, sF, hx, hy, e, q⟩ := h
  obtain ⟨i, j, rfl, rfl⟩ := hn _ _ _ e
  rw [hp] at e
  cases e
  have e3 := hx.int; have e4 := hy.int
  subst e3; subst e4
  exact h0 pins s σ H _ _ v u Q I rx ry ⟨i, j, rfl, rfl, q⟩
theorem cmp_ints {o : Cop} (ho : o = .lt ∨ o = .le ∨ o = .gt ∨ o = .ge) : ∀ x y b, cmpD o x y = some b → ∃ i j, x = .int i ∧ y = .int j := by
  intro x y b h
  cases x with
  | int i =>
    cases y with
    | int j => exact ⟨i, j, rfl, rfl⟩
    | _ => rcases ho with rfl | rfl | rfl | rfl <;> simp [cmpD] at h
  | _ => rcases ho with rfl | rfl | rfl | rfl <;> simp [cmpD] at h
theorem in_all {ys : List D} (h : ys.all (okD 60) = true) : okD 61 (.list ys) = true ∧ okD 61 (.tuple ys) = true := ⟨by simpa [okD] using h, by simpa [okD] using h⟩
theorem key_rel {F H : Hp} {v : V} {d : D} {k : Key} (h : Vw K F H v d) (e : keyOf d = some k) : v = kV k := by
  cases d with
  | int i => simp only [keyOf, Option.some.injEq] at e; subst e; exact h.int
  | str x => simp only [keyOf, Option.some.injEq] at e; subst e; exact h.str
  | _ => simp [keyOf] at e
theorem keyOf_keyD (k : Key) : keyOf (keyD k) = some k := by cases k <;> rfl
end
end Q
set_option autoImplicit false
set_option linter.all false
set_option maxRecDepth 100000
set_option maxHeartbeats 4000000
namespace Q
open PySem PySem.Spec PyProof.Rows L2
variable {X : Cx} {K : PySem.W.Frag}

theorem valV_dget {F : Hp} {k : Key} : ∀ {kvs : List (Key × V)} {ks : List (D × D)}, RpK K F kvs ks → (∀ d, dget k ks = some d → ∃ v, valV kvs k = some v ∧ Rp K F v d) ∧ (dget k ks = none → valV kvs k = none) := by
  intro kvs ks h
  induction ks generalizing kvs with
  | nil =>
    cases h
    refine ⟨fun d e => ?_, fun _ => rfl⟩
    cases e
  | cons p ks ih =>
    cases h with
    | cons h1 h2 =>
      rename_i k2 v vs d
      by_cases e : k2 = k
      · subst e
        have e2 : valV ((k2, v) :: vs) k2 = some v := valV_pos rfl
        refine ⟨fun d2 q => ⟨v, e2, ?_⟩, fun q => ?_⟩
        · simp [dget, keyOf_keyD] at q; subst q; exact h1
        · simp [dget, keyOf_keyD] at q
      · have e2 : valV ((k2, v) :: vs) k = valV vs k := valV_neg e
        have e3 : dget k ((keyD k2, d) :: ks) = dget k ks := by simp [dget, keyOf_keyD, e]
        rw [e2, e3]
        exact ih h2
theorem putK_dput {F : Hp} {k : Key} {v : V} {d : D} (hv : Rp K F v d) {kvs : List (Key × V)} {ks : List (D × D)} (h : RpK K F kvs ks) : RpK K F (putK kvs k v) (dput k d ks) := by
  have hmap : ∀ {kvs : List (Key × V)} {ks : List (D × D)}, RpK K F kvs ks → RpK K F (kvs.map fun kv => if kv.1 = k then (kv.1, v) else kv) (ks.map fun p => if keyOf p.1 = some k then (p.1, d) else p) := by
    intro kvs ks h
    induction ks generalizing kvs with
    | nil => cases h; exact .nil
    | cons p ks ih =>
      cases h with
      | cons h1 h2 =>
        rename_i k2 w vs e
        simp only [List.map_cons, keyOf_keyD, Option.some.injEq]
        by_cases q : k2 = k
        · rw [if_pos q, if_pos q]; exact .cons hv (ih h2)
        · rw [if_neg q, if_neg q]; exact .cons h1 (ih h2)
  have happ : ∀ {kvs : List (Key × V)} {ks : List (D × D)}, RpK K F kvs ks → RpK K F (kvs ++ [(k, v)]) (ks ++ [(keyD k, d)]) := by
    intro kvs ks h
    induction ks generalizing kvs with
    | nil => cases h; exact .cons hv .nil
    | cons p ks ih =>
      cases h with
      | cons h1 h2 => exact .cons h1 (ih h2)
  obtain ⟨g1, g2⟩ := valV_dget (k := k) h
  unfold putK dput
  rw [valV_any]
  cases e : dget k ks with
  | none => rw [g2 e]; simp only [Option.isSome_none, Bool.false_eq_true, if_false]; exact happ h
  | some d2 =>
    obtain ⟨w, q, _⟩ := g1 d2 e
    rw [q]; simp only [Option.isSome_some, if_true]; exact hmap h
theorem notScr {d : D} (h : ¬ (isScr d).isSome = true) : isScr d = none := by
  cases e : isScr d with
  | none => rfl
  | some x => rw [e] at h; exact absurd rfl h

theorem opc_in_ (hu : X.A.units + 65 < cLine) (ng : Bool) {op : CmpOp} (hop : op = if ng then .NotIn else .In) : OpR X (compareOp op) (rC X.K fun x y => (inD x y).map fun b => if ng then !b else b) := by
  intro pins s σ H x y v u Q I rx ry h
  obtain ⟨F, dx, dy, b, sF, hx, hy, e, q⟩ := h
  simp only [Option.map_eq_some_iff] at e
  obtain ⟨b0, e, e2⟩ := e
  cases dy with
  | list ys =>
    simp only [inD] at e
    split at e
    · rename_i c
      rw [Bool.and_eq_true] at c
      cases e
      obtain ⟨as, r1⟩ := Dp.reads I dx x v (okD_dpH sF hx c.1) rx
      obtain ⟨bs, r2⟩ := Dp.reads I (.list ys) y u (Rp.dp 61 _ y (in_all c.2).1 (hy.rpH sF)) ry
      obtain ⟨p1, p2⟩ := okD_plain _ _ c.1
      obtain ⟨p3, _⟩ := okD_plain _ _ (in_all c.2).1
      have p3 : PyData.plainAll ys = true := by simpa only [PyData.plain] using p3
      have hm : min (PyData.depthAll ys) dx.depth ≤ dx.depth := Nat.min_le_right _ _
      subst hop
      cases ng with
      | false => exact PySem.SeqAt.in_list_data r2 r1 p3 p1 (by omega) ⟨.bl _, H, I, rfl, by rw [← e2] at q; exact q⟩
      | true => exact PySem.SeqAt.notIn_list_data r2 r1 p3 p1 (by omega) ⟨.bl _, H, I, rfl, by rw [← e2] at q; exact q⟩
    · cases e
  | tuple ys =>
    simp only [inD] at e
    split at e
    · rename_i c
      rw [Bool.and_eq_true] at c
      cases e
      obtain ⟨as, r1⟩ := Dp.reads I dx x v (okD_dpH sF hx c.1) rx
      obtain ⟨bs, r2⟩ := Dp.reads I (.tuple ys) y u (Rp.dp 61 _ y (in_all c.2).2 (hy.rpH sF)) ry
      obtain ⟨p1, p2⟩ := okD_plain _ _ c.1
      obtain ⟨p3, _⟩ := okD_plain _ _ (in_all c.2).2
      have p3 : PyData.plainAll ys = true := by simpa only [PyData.plain] using p3
      have hm : min (PyData.depthAll ys) dx.depth ≤ dx.depth := Nat.min_le_right _ _
      subst hop
      cases ng with
      | false => exact PySem.SeqAt.in_tuple_data r2 r1 p3 p1 (by omega) ⟨.bl _, H, I, rfl, by rw [← e2] at q; exact q⟩
      | true => exact PySem.SeqAt.notIn_tuple_data r2 r1 p3 p1 (by omega) ⟨.bl _, H, I, rfl, by rw [← e2] at q; exact q⟩
    · cases e
  | dict kvs =>
    simp only [inD] at e
    split at e
    · cases e
    · rename_i c
      simp only [Option.map_eq_some_iff] at e
      obtain ⟨k, ek, e⟩ := e
      obtain ⟨a, vs, rfl, ha, ra⟩ := hy.dict sF (notScr c)
      have ex := key_rel hx ek
      subst ex
      cases (show u = Value.ref a from ry)
      obtain ⟨g1, g2⟩ := valV_dget (k := k) ra
      have hs : (valV vs k).isSome = b0 := by
        cases q2 : dget k kvs with
        | none => rw [g2 q2, ← e, q2]; rfl
        | some d2 => obtain ⟨w, q3, _⟩ := g1 d2 q2; rw [q3, ← e, q2]; rfl
      subst hop
      cases ng with
      | false => exact d_in (by omega) I (.k ha) rx fun s' I' => ⟨.bl _, H, I', rfl, by rw [hs]; rw [← e2] at q; exact q⟩
      | true => exact d_notIn (by omega) I (.k ha) rx fun s' I' => ⟨.bl _, H, I', rfl, by rw [hs]; rw [← e2] at q; exact q⟩
  | _ => simp [inD] at e
def copOf : Cop → CmpOp
  | .eq => .Eq | .ne => .NotEq | .lt => .Lt | .le => .LtE | .gt => .Gt | .ge => .GtE | .inn => .In | .nin => .NotIn
theorem op_cmp (hu : X.A.units + 65 < cLine) (o : Cop) : OpR X (compareOp (copOf o)) (rC X.K (cmpD o)) := by
  cases o with
  | eq => exact opc_eq (by omega)
  | ne => exact opc_ne (by omega)
  | lt => exact opc_int op_lt (fun _ _ => rfl) (cmp_ints (.inl rfl))
  | le => exact opc_int op_le (fun _ _ => rfl) (cmp_ints (.inr (.inl rfl)))
  | gt => exact opc_int op_gt (fun _ _ => rfl) (cmp_ints (.inr (.inr (.inl rfl))))
  | ge => exact opc_int op_ge (fun _ _ => rfl) (cmp_ints (.inr (.inr (.inr rfl))))
  | inn =>
    have h := opc_in_ (X := X) hu false (op := .In) rfl
    intro pins s σ H x y v u Q I rx ry hq
    obtain ⟨F, dx, dy, b, sF, hx, hy, e, q⟩ := hq
    refine h pins s σ H x y v u Q I rx ry ⟨F, dx, dy, b, sF, hx, hy, ?_, q⟩
    have e : inD dx dy = some b := by cases dx <;> cases dy <;> exact e
    show (inD dx dy).map _ = _
    rw [e]; rfl
  | nin =>
    have h := opc_in_ (X := X) hu true (op := .NotIn) rfl
    intro pins s σ H x y v u Q I rx ry hq
    obtain ⟨F, dx, dy, b, sF, hx, hy, e, q⟩ := hq
    refine h pins s σ H x y v u Q I rx ry ⟨F, dx, dy, b, sF, hx, hy, ?_, q⟩
    have e : (inD dx dy).map not = some b := by cases dx <;> cases dy <;> exact e
    rw [← e]
    show (inD dx dy).map _ = _
    cases inD dx dy <;> rfl

theorem ixN_eq (n : Nat) (i : Int) : L2.ixN n i = Q.ixN n i := rfl
theorem atI_of {F : Hp} {vs : List V} {ds : List D} {i : Int} {d : D} (h : RpL K F vs ds) (e : atD ds i = some d) : ∃ v, atI vs i = some v ∧ Rp K F v d := by
  unfold atD at e
  unfold atI
  rw [h.length, ixN_eq]
  cases q : Q.ixN ds.length i with
  | none => rw [q] at e; cases e
  | some j =>
    rw [q] at e
    exact h.get e
def rX (K : PySem.W.Frag) : R2 := fun x y H Q => ∃ F dx dy d, Same F H ∧ Vw K F H x dx ∧ Vw K F H y dy ∧ ixD dx dy = some d ∧ ∀ v, Rp K F v d → Q v H
theorem ix_any (hu : X.A.units + 1 < cLine) : IxR X (rX X.K) := by
  intro value slice pins s σ H x y v u Q I rx ry h hs
  obtain ⟨F, dx, dy, d, sF, hx, hy, e, q⟩ := h
  cases dx with
  | list xs =>
    cases dy with
    | int i =>
      obtain ⟨a, vs, rfl, ha, ra⟩ := hx.list sF
      have e3 := hy.int
      subst e3
      obtain ⟨w, h1, h2⟩ := atI_of ra (show atD xs i = some d from e)
      exact ix_list value slice pins s σ H _ _ v u Q I rx ry ⟨a, vs, i, w, rfl, rfl, .inl (.inl ha), h1, q w h2⟩ hs
    | _ => simp [ixD] at e
  | tuple xs =>
    cases dy with
    | int i =>
      obtain ⟨a, vs, rfl, ha, ra⟩ := hx.tuple
      have e3 := hy.int
      subst e3
      obtain ⟨w, h1, h2⟩ := atI_of ra (show atD xs i = some d from e)
      exact ix_tup value slice pins s σ H _ _ v u Q I rx ry ⟨a, vs, i, w, rfl, rfl, seqT_mono sF ha, h1, q w h2⟩ hs
    | _ => simp [ixD] at e
  | dict ks =>
    have e : (if (isScr (.dict ks)).isSome then none else (keyOf dy).bind fun k => dget k ks) = some d := by cases dy <;> exact e
    split at e
    · cases e
    · rename_i c
      cases ek : keyOf dy with
      | none => rw [ek] at e; cases e
      | some k =>
        rw [ek] at e
        have e : dget k ks = some d := e
        obtain ⟨a, vs, rfl, ha, ra⟩ := hx.dict sF (notScr c)
        have ey := key_rel hy ek
        subst ey
        cases (show v = Value.ref a from rx)
        obtain ⟨w, h1, h2⟩ := (valV_dget (k := k) ra).1 d e
        have g : DGet H a (kV k) (some w) := by
          have := DGet.k (k := k) ha
          rw [h1] at this
          exact this
        exact PyProof.Rows.tail_any (dict_typeIs I g) PySem.F.slot_dict_getitem.lookup (d_getItem hu I g ry fun w' s' I' rw' => ⟨w, H, I', rw', q w h2⟩) hs
  | _ => cases dy <;> simp [ixD] at e

theorem sIx_eq (n d : Nat) (o : Option Int) (hd : d ≤ n) : HT.sIx n d o = Q.sIx n d o := by
  cases o with
  | none => rfl
  | some i =>
    unfold HT.sIx Q.sIx
    simp only
theorem cutV_cut {F : Hp} {vs : List V} {ds : List D} (lo hi : Option Int) (h : RpL K F vs ds) : RpL K F (cutV vs lo hi) (cutD ds lo hi) := by
  unfold cutV cutD
  rw [h.length, sIx_eq _ _ _ (Nat.zero_le _), sIx_eq _ _ _ (Nat.le_refl _)]
  exact (h.drop _).take _
def rS (K : PySem.W.Frag) : V → Option Int → Option Int → Hp → VK → Prop := fun x lo hi H Q => ∃ F dx d, Same F H ∧ Vw K F H x dx ∧ slD lo hi dx = some d ∧ ∀ v F' H', Step F H F' H' → Post K .own H [] v d F' H' → Q v H'
theorem sl_any : SlR X (rS X.K) := by
  intro pins s σ H x v vl vu lo hi sl Q I rx hs pl pu h
  obtain ⟨F, dx, d, sF, hx, e, q⟩ := h
  cases dx with
  | list xs =>
    simp only [slD, Option.some.injEq] at e
    subst e
    obtain ⟨a, vs, rfl, ha, ra⟩ := hx.list sF
    refine sl_list pins s σ H _ v vl vu lo hi sl Q I rx hs pl pu ⟨a, vs, rfl, .inl (.inl ha), fun p hp => ?_⟩
    obtain ⟨s1, p1⟩ := post_list (K := X.K) (σ := []) sF hp (cutV_cut lo hi ra)
    exact q _ _ _ s1 p1
  | tuple xs =>
    simp only [slD, Option.some.injEq] at e
    subst e
    obtain ⟨a, vs, rfl, ha, ra⟩ := hx.tuple
    refine sl_tupA pins s σ H _ v vl vu lo hi sl Q I rx hs pl pu ⟨a, vs, rfl, seqT_mono sF ha, fun ⟨z1, z2⟩ => ?_, fun _ p hp => ?_⟩
    · rw [ra.length, sIx_eq _ _ _ (Nat.zero_le _)] at z1
      rw [ra.length, sIx_eq _ _ _ (Nat.le_refl _)] at z2
      have z : cutD xs lo hi = xs := by
        unfold cutD
        rw [z1, z2]
        simp
      rw [z] at q
      exact q _ F H (.refl sF) (post_own rfl (.tup ha ra))
    · obtain ⟨s1, p1⟩ := post_tup (K := X.K) sF hp (cutV_cut lo hi ra)
      exact q _ _ _ s1 (post_own rfl p1)
  | dict ks =>
    simp only [slD, Option.map_eq_some_iff] at e
    obtain ⟨xs, e1, e2⟩ := e
    subst e2
    obtain ⟨a, ns, rfl, ha, en⟩ := hx.scr sF e1
    have ra : RpL X.K F (ns.map V.int) xs := by
      rw [en]
      clear ha en e1
      induction ns with
      | nil => exact .nil
      | cons n ns ih => exact .cons (.int n) ih
    refine sl_list pins s σ H _ v vl vu lo hi sl Q I rx hs pl pu ⟨a, _, rfl, ha, fun p hp => ?_⟩
    obtain ⟨s1, p1⟩ := post_list (K := X.K) (σ := []) sF hp (cutV_cut lo hi ra)
    exact q _ _ _ s1 p1
  | _ => simp [slD, isScr] at e
end Q
set_option autoImplicit false
set_option linter.all false
set_option maxRecDepth 100000
set_option maxHeartbeats 4000000
namespace Q
open PySem PySem.Spec PyProof.Rows L2
variable {X : Cx} {K : PySem.W.Frag}
def rF (K : PySem.W.Frag) (g : D → Option D) : List V → Hp → VK → Prop := fun xs H Q => ∃ F x dx d, xs = [x] ∧ Same F H ∧ Vw K F H x dx ∧ g dx = some d ∧ ∀ v F' H', Step F H F' H' → Post K .own H [] v d F' H' → Q v H'
theorem fn_len : CallR X (.builtin "len") (rF X.K (biD .len)) := by
  intro pins s σ H xs us Q I r h
  obtain ⟨F, x, dx, d, rfl, sF, hx, e, q⟩ := h
  cases dx with
  | list ys =>
    simp only [biD, Option.some.injEq] at e
    subst e
    obtain ⟨a, vs, rfl, ha, ra⟩ := hx.list sF
    refine call_len_seq pins s σ H _ us Q I r ⟨a, vs, rfl, .inl (.inl (.inl ha)), ?_⟩
    rw [ra.length]
    exact q _ F H (.refl sF) (post_own rfl (.int _))
  | tuple ys =>
    simp only [biD, Option.some.injEq] at e
    subst e
    obtain ⟨a, vs, rfl, ha, ra⟩ := hx.tuple
    refine call_len_seq pins s σ H _ us Q I r ⟨a, vs, rfl, .inr (seqT_mono sF ha), ?_⟩
    rw [ra.length]
    exact q _ F H (.refl sF) (post_own rfl (.int _))
  | _ => simp [biD] at e
theorem fn_abs : CallR X (.builtin "abs") (rF X.K (biD .abs)) := by
  intro pins s σ H xs us Q I r h
  obtain ⟨F, x, dx, d, rfl, sF, hx, e, q⟩ := h
  cases dx with
  | int i =>
    simp only [biD, Option.some.injEq] at e
    subst e
    have e3 := hx.int
    subst e3
    refine call_abs pins s σ H _ us Q I r ⟨i, rfl, ?_⟩
    have z : (if i < 0 then -i else i) = (i.natAbs : Int) := by split <;> omega
    rw [z]
    exact q _ F H (.refl sF) (post_own rfl (.int _))
  | _ => simp [biD] at e
theorem fn_int : CallR X (.type "int") (rF X.K (biD .int)) := by
  intro pins s σ H xs us Q I r h
  obtain ⟨F, x, dx, d, rfl, sF, hx, e, q⟩ := h
  cases dx with
  | int i =>
    simp only [biD, Option.some.injEq] at e
    subst e
    have e3 := hx.int
    subst e3
    exact call_int1 pins s σ H _ us Q I r (.inl ⟨i, rfl, q _ F H (.refl sF) (post_own rfl (.int _))⟩)
  | bool b =>
    simp only [biD, Option.some.injEq] at e
    subst e
    have e3 := hx.bool
    subst e3
    exact call_int1 pins s σ H _ us Q I r (.inr ⟨b, rfl, q _ F H (.refl sF) (post_own rfl (.int _))⟩)
  | _ => simp [biD] at e
theorem fn_str : CallR X (.type "str") (rF X.K (biD .str)) := by
  intro pins s σ H xs us Q I r h
  obtain ⟨F, x, dx, d, rfl, sF, hx, e, q⟩ := h
  cases dx with
  | int i =>
    obtain ⟨e1, e2⟩ := gate_some (show gate _ _ = some d from e)
    subst e2
    simp only [Bool.and_eq_true, decide_eq_true_eq] at e1
    have e3 := hx.int
    subst e3
    refine call_str_int pins s σ H _ us Q I r ⟨i, rfl, ?_, q _ F H (.refl sF) (post_own rfl (.str _))⟩
    by_cases z : i.natAbs = 0
    · rw [z]; decide
    · exact (Nat.log2_lt z).mpr (Nat.lt_of_lt_of_le (show i.natAbs < 2 ^ 30 by omega) (Nat.pow_le_pow_right (by decide) (by decide)))
  | _ => simp [biD] at e
theorem fn_list : CallR X (.type "list") (rF X.K (biD .list)) := by
  intro pins s σ H xs us Q I r h
  obtain ⟨F, x, dx, d, rfl, sF, hx, e, q⟩ := h
  cases dx with
  | list ys =>
    simp only [biD, Option.some.injEq] at e
    subst e
    obtain ⟨a, vs, rfl, ha, ra⟩ := hx.list sF
    refine call_list_of pins s σ H _ us Q I r ⟨a, vs, rfl, .inl (.inl (.inl ha)), fun p hp => ?_⟩
    obtain ⟨s1, p1⟩ := post_list (K := X.K) (σ := []) sF hp ra
    exact q _ _ _ s1 p1
  | tuple ys =>
    simp only [biD, Option.some.injEq] at e
    subst e
    obtain ⟨a, vs, rfl, ha, ra⟩ := hx.tuple
    refine call_list_of pins s σ H _ us Q I r ⟨a, vs, rfl, .inr (seqT_mono sF ha), fun p hp => ?_⟩
    obtain ⟨s1, p1⟩ := post_list (K := X.K) (σ := []) sF hp ra
    exact q _ _ _ s1 p1
  | _ => simp [biD] at e
theorem fn_tuple : CallR X (.type "tuple") (rF X.K (biD .tuple)) := by
  intro pins s σ H xs us Q I r h
  obtain ⟨F, x, dx, d, rfl, sF, hx, e, q⟩ := h
  cases dx with
  | list ys =>
    simp only [biD, Option.some.injEq] at e
    subst e
    obtain ⟨a, vs, rfl, ha, ra⟩ := hx.list sF
    refine call_tuple_of pins s σ H _ us Q I r ⟨a, vs, rfl, .inl ⟨.inl (.inl ha), fun p hp => ?_⟩⟩
    obtain ⟨s1, p1⟩ := post_tup (K := X.K) sF hp ra
    exact q _ _ _ s1 (post_own rfl p1)
  | tuple ys =>
    simp only [biD, Option.some.injEq] at e
    subst e
    obtain ⟨a, vs, rfl, ha, ra⟩ := hx.tuple
    exact call_tuple_of pins s σ H _ us Q I r ⟨a, vs, rfl, .inr ⟨seqT_mono sF ha, q _ F H (.refl sF) (post_own rfl (.tup ha ra))⟩⟩
  | _ => simp [biD] at e

theorem imax_spec : ∀ (ns : List Int) (m : Int), imax ns = some m → m ∈ ns ∧ ∀ y ∈ ns, y ≤ m := by
  have go : ∀ (r : List Int) (a : Int), (r.foldl (fun m x => if m < x then x else m) a ∈ a :: r) ∧ ∀ y ∈ a :: r, y ≤ r.foldl (fun m x => if m < x then x else m) a := by
    intro r
    induction r with
    | nil => intro a; simp
    | cons b r ih =>
      intro a
      obtain ⟨h1, h2⟩ := ih (if a < b then b else a)
      simp only [List.foldl_cons]
      refine ⟨?_, fun y hy => ?_⟩
      · rcases List.mem_cons.mp h1 with h1 | h1
        · rw [h1]; split <;> simp
        · exact List.mem_cons_of_mem _ (List.mem_cons_of_mem _ h1)
      · have hb := h2 (if a < b then b else a) (by simp)
        have k1 : a ≤ (if a < b then b else a) ∧ b ≤ (if a < b then b else a) := by split <;> omega
        rcases List.mem_cons.mp hy with hy | hy
        · rw [hy]; omega
        · rcases List.mem_cons.mp hy with hy | hy
          · rw [hy]; omega
          · exact h2 y (List.mem_cons_of_mem _ hy)
  intro ns m h
  cases ns with
  | nil => cases h
  | cons a r =>
    simp only [imax, Option.some.injEq] at h
    subst h
    exact go r a
theorem imin_spec : ∀ (ns : List Int) (m : Int), imin ns = some m → m ∈ ns ∧ ∀ y ∈ ns, m ≤ y := by
  have go : ∀ (r : List Int) (a : Int), (r.foldl (fun m x => if x < m then x else m) a ∈ a :: r) ∧ ∀ y ∈ a :: r, r.foldl (fun m x => if x < m then x else m) a ≤ y := by
    intro r
    induction r with
    | nil => intro a; simp
    | cons b r ih =>
      intro a
      obtain ⟨h1, h2⟩ := ih (if b < a then b else a)
      simp only [List.foldl_cons]
      refine ⟨?_, fun y hy => ?_⟩
      · rcases List.mem_cons.mp h1 with h1 | h1
        · rw [h1]; split <;> simp
        · exact List.mem_cons_of_mem _ (List.mem_cons_of_mem _ h1)
      · have hb := h2 (if b < a then b else a) (by simp)
        have k1 : (if b < a then b else a) ≤ a ∧ (if b < a then b else a) ≤ b := by split <;> omega
        rcases List.mem_cons.mp hy with hy | hy
        · rw [hy]; omega
        · rcases List.mem_cons.mp hy with hy | hy
          · rw [hy]; omega
          · exact h2 y (List.mem_cons_of_mem _ hy)
  intro ns m h
  cases ns with
  | nil => cases h
  | cons a r =>
    simp only [imin, Option.some.injEq] at h
    subst h
    exact go r a
theorem fn_max (hc : X.calm = true) : CallR X (.builtin "max") (rF X.K (biD .max)) := by
  intro pins s σ H xs us Q I r h
  obtain ⟨F, x, dx, d, rfl, sF, hx, e, q⟩ := h
  cases dx with
  | list ys =>
    simp only [biD, Option.map_eq_some_iff, Option.bind_eq_some_iff] at e
    obtain ⟨m, ⟨ns, e1, e2⟩, e3⟩ := e
    subst e3
    obtain ⟨a, vs, rfl, ha, ra⟩ := hx.list sF
    obtain ⟨ev, _⟩ := ra.ints e1
    subst ev
    obtain ⟨m1, m2⟩ := imax_spec ns m e2
    refine cr_max hc pins s σ H _ us Q I r ⟨a, ns, rfl, .inl (.inl ha), List.length_pos_of_mem m1, fun m' h1 h2 => ?_⟩
    have : m' = m := by have := h2 m m1; have := m2 m' h1; omega
    subst this
    exact q _ F H (.refl sF) (post_own rfl (.int _))
  | _ => simp [biD] at e
theorem fn_min (hc : X.calm = true) : CallR X (.builtin "min") (rF X.K (biD .min)) := by
  intro pins s σ H xs us Q I r h
  obtain ⟨F, x, dx, d, rfl, sF, hx, e, q⟩ := h
  cases dx with
  | list ys =>
    simp only [biD, Option.map_eq_some_iff, Option.bind_eq_some_iff] at e
    obtain ⟨m, ⟨ns, e1, e2⟩, e3⟩ := e
    subst e3
    obtain ⟨a, vs, rfl, ha, ra⟩ := hx.list sF
    obtain ⟨ev, _⟩ := ra.ints e1
    subst ev
    obtain ⟨m1, m2⟩ := imin_spec ns m e2
    refine cr_min hc pins s σ H _ us Q I r ⟨a, ns, rfl, .inl (.inl ha), List.length_pos_of_mem m1, fun m' h1 h2 => ?_⟩
    have : m' = m := by have := h2 m m1; have := m2 m' h1; omega
    subst this
    exact q _ F H (.refl sF) (post_own rfl (.int _))
  | _ => simp [biD] at e
theorem fn_sum (hc : X.calm = true) : CallR X (.builtin "sum") (rF X.K (biD .sum)) := by
  intro pins s σ H xs us Q I r h
  obtain ⟨F, x, dx, d, rfl, sF, hx, e, q⟩ := h
  cases dx with
  | list ys =>
    simp only [biD, Option.map_eq_some_iff] at e
    obtain ⟨ns, e1, e3⟩ := e
    subst e3
    obtain ⟨a, vs, rfl, ha, ra⟩ := hx.list sF
    obtain ⟨ev, _⟩ := ra.ints e1
    subst ev
    exact cr_sum hc pins s σ H _ us Q I r ⟨a, ns, rfl, .inl (.inl ha), q _ F H (.refl sF) (post_own rfl (.int _))⟩
  | _ => simp [biD] at e

def Bd (K : PySem.W.Frag) (F : Hp) (u : Value) (d : D) : Prop := ∃ x, RelV x u ∧ Rp K F x d
theorem each_of {F : Hp} : ∀ {vs : List V} {us : List Value} {ds : List D}, RpL K F vs ds → Vals vs us → PySem.W.EachIs (Bd K F) us ds
  | _, _, _, .nil, .nil => .nil
  | _, _, _, .cons h t, .cons r s => .cons ⟨_, r, h⟩ (each_of t s)
theorem of_each {F : Hp} : ∀ {us : List Value} {ds : List D}, PySem.W.EachIs (Bd K F) us ds → ∃ vs, Vals vs us ∧ RpL K F vs ds
  | _, _, .nil => ⟨[], .nil, .nil⟩
  | _, _, .cons ⟨x, r, h⟩ t => by
    obtain ⟨vs, a, b⟩ := of_each t
    exact ⟨x :: vs, .cons r a, .cons h b⟩
theorem fn_sorted (hu : X.A.units + 65 < cLine) : CallR X (.builtin "sorted") (rF X.K (biD .sorted)) := by
  intro pins s σ H xs us Q I r h
  obtain ⟨F, x, dx, d, rfl, sF, hx, e, q⟩ := h
  cases dx with
  | list ys =>
    simp only [biD, Option.map_eq_some_iff] at e
    obtain ⟨zs, e1, e2⟩ := e
    subst e2
    obtain ⟨g1, g2⟩ := gate_some (show gate _ _ = some zs from e1)
    subst g2
    simp only [Bool.and_eq_true, Bool.or_eq_true] at g1
    obtain ⟨ga, gs, go⟩ := g1
    obtain ⟨a, vs, rfl, ha, ra⟩ := hx.list sF
    obtain ⟨its, rv, hl, hz⟩ := I.list (.inl (.inl ha))
    rw [Vals.ref1 r]
    have hlen : its.length = ys.length := by rw [← rv.length, ra.length]
    have hvl : vs.length = ys.length := ra.length
    have er : PySem.W.EachIs (fun v b => ∃ as, Reads s.heap v (id b) as) its ys := by
      have go2 : ∀ x ∈ ys, okD 60 x = true := List.all_eq_true.mp go
      clear ga gs go q e1 hx hlen hvl ha hl hz
      induction ys generalizing vs its with
      | nil => cases ra; cases rv; exact .nil
      | cons y ys ih =>
        cases ra with
        | cons h1 h2 =>
          cases rv with
          | cons r1 r2 => exact .cons (Dp.reads I y _ _ (Rp.dp 60 y _ (go2 y (by simp)) (h1.mono sF)) r1) (ih _ h2 _ r2 fun x hx => go2 x (by simp [hx]))
    refine PySem.W.sorted_data (R := Bd X.K F) (enc := id) hl.isList (each_of ra rv) er ?_ ?_ (by rw [← hvl]; exact hz) ?_ fun out ho eo => ?_
    · rw [List.map_id]
      intro d1 h1 d2 h2
      exact List.all_eq_true.mp (List.all_eq_true.mp ga d1 h1) d2 h2
    · rw [List.map_id]
      rcases gs with gs | gs
      · refine .inl fun d1 h1 => ?_
        have := List.all_eq_true.mp gs d1 h1
        cases d1 with
        | tuple ts =>
          cases ts with
          | nil => simp [sortT] at this
          | cons t ts => exact ⟨t, ts, rfl⟩
        | _ => simp [sortT] at this
      · refine .inr fun d1 h1 => ?_
        have := List.all_eq_true.mp gs d1 h1
        cases d1 with
        | tuple ts => simp [sortO] at this
        | none => simp [sortO] at this
        | _ => exact ⟨(fun z => PyData.noConfusion z), (fun _ z => PyData.noConfusion z)⟩
    · intro b hb
      have := (okD_plain _ _ (List.all_eq_true.mp go b hb)).2
      show X.A.units + 2 + b.depth < cLine
      omega
    · obtain ⟨ws, w1, w2⟩ := of_each eo
      obtain ⟨ep, he'⟩ := PyProof.Rows.sortedAll_at s.heap its (List.toArray out)
      have hp : H (s.heap.objs.size + 1) = none := I.hok.fresh (Nat.le_succ _)
      obtain ⟨s1, p1⟩ := post_list (K := X.K) (σ := []) sF hp w2
      refine ⟨.ref _, _, I.laid (a := s.heap.objs.size + 1) (o := .lst ws) (t' := s.toks) (fun _ _ => PyProof.Rows.sortedAll_old) (Nat.le_succ _) ⟨by rw [w1.length, ho]; omega, out, ep, w1, he'⟩, rfl, q _ _ _ s1 p1⟩
  | _ => simp [biD] at e

def rI (K : PySem.W.Frag) : V → List V → Hp → VK → Prop := fun x xs H Q => ∃ F y ds dy d, xs = [y] ∧ Same F H ∧ Vw K F H x (.list ds) ∧ Vw K F H y dy ∧ indexD ds dy = some d ∧ ∀ v F' H', Step F H F' H' → Post K .own H [] v d F' H' → Q v H'
theorem find_spec : ∀ {ds : List D} {p : D → Bool} {j : Nat}, ds.findIdx? p = some j → ∃ z, ds[j]? = some z ∧ p z = true ∧ ∀ (m : Nat) (z' : D), m < j → ds[m]? = some z' → p z' = false := by
  intro ds p j h
  rw [List.findIdx?_eq_some_iff_getElem] at h
  obtain ⟨h1, h2, h3⟩ := h
  refine ⟨ds[j], List.getElem?_eq_getElem h1, h2, fun m z' hm hz => ?_⟩
  obtain ⟨hl, e⟩ := List.getElem?_eq_some_iff.mp hz
  subst e
  simpa using h3 m hm
theorem mt_index (hu : X.A.units + 65 < cLine) : MtR X "list.index" (rI X.K) := by
  intro pins s σ H x xs v us Q I rx rxs h
  obtain ⟨F, y, ds, dy, d, rfl, sF, hx, hy, e, q⟩ := h
  unfold indexD at e
  split at e
  · rename_i c
    rw [Bool.and_eq_true] at c
    simp only [Option.map_eq_some_iff] at e
    obtain ⟨j, e1, e2⟩ := e
    subst e2
    obtain ⟨z, z1, z2, z3⟩ := find_spec e1
    obtain ⟨a, vs, rfl, ha, ra⟩ := hx.list sF
    cases rx
    cases rxs with
    | cons ry rt =>
      rename_i uy ut
      cases rt
      obtain ⟨bs, r1⟩ := Dp.reads I dy y uy (okD_dpH sF hy c.1) ry
      obtain ⟨p1, p2⟩ := okD_plain _ _ c.1
      obtain ⟨p3, _⟩ := okD_plain _ _ (in_all c.2).1
      have p3 : PyData.plainAll ds = true := by simpa only [PyData.plain] using p3
      obtain ⟨its, rv, hl, hz⟩ := I.list (.inl (.inl ha))
      obtain ⟨⟨cls, dd, data, sls⟩, n, ho, hc, hdn, hdt⟩ := hl
      simp only at hc hdt
      subst hc hdt
      have hdp : DpAll X.K H vs ds := RpL.dp (n := 60) (fun x hx => List.all_eq_true.mp c.2 x hx) (ra.mono sF)
      obtain ⟨as, h4⟩ := Dp.readsAll I ds _ its hdp rv
      have hn : its.length = ds.length := by rw [← rv.length, ra.length]
      have hmap : its.map (PySem.SeqAt.readOf s.heap) = ds := PySem.SeqAt.readsAll_map_plain ds its as p3 h4
      obtain ⟨hjd, _⟩ := List.getElem?_eq_some_iff.mp z1
      have hsl := sizeLine_eq
      have hvl := ra.length
      have hj : j < its.toArray.size := by simp only [List.size_toArray]; omega
      have hm : min (PyData.depthAll ds) dy.depth ≤ dy.depth := Nat.min_le_right _ _
      have at_ : ∀ (m : Nat) (hm : m < its.toArray.size) (z' : PyData), ds[m]? = some z' → PySem.SeqAt.readOf s.heap its.toArray[m] = z' := by
        intro m hm z' hz'
        have hml : m < its.length := by simpa using hm
        rw [← hmap, List.getElem?_map, List.getElem?_eq_getElem hml] at hz'
        simpa using hz'
      refine call_meets PySem.F.slot_list_index ⟨_, ho, rfl⟩ PySem.F.entry_list_index (PySem.F.args_list_index_2 _ _)
        (PySem.SeqAt.list_indexAt a its.toArray n dd sls uy (fun u => PyData.eqv (PySem.SeqAt.readOf s.heap u) dy) j hj (by omega) ?_ ?_)
        ⟨ho, PySem.SeqAt.items_plain (vs := its.toArray) (show ReadsAll s.heap its.toArray.toList ds as from h4) r1 p3 p1 (by omega), ?_⟩
      · show PyData.eqv (PySem.SeqAt.readOf s.heap its.toArray[j]) dy = true
        rw [at_ j hj z z1]
        exact z2
      · intro m hm2 hmj
        have hmd : m < ds.length := by omega
        show PyData.eqv (PySem.SeqAt.readOf s.heap its.toArray[m]) dy = false
        rw [at_ m hm2 _ (List.getElem?_eq_getElem hmd)]
        exact z3 m _ hmj (List.getElem?_eq_getElem hmd)
      · exact ⟨.int (j : Nat), H, I.tok _, ⟨_, rfl⟩, q _ F H (.refl sF) (post_own rfl (.int _))⟩
  · cases e

def tyN : Ty → String
  | .int => "int" | .bool => "bool" | .str => "str" | .list => "list" | .tuple => "tuple"
def dTy : D → String
  | .none => "NoneType" | .bool _ => "bool" | .int _ => "int" | .str _ => "str" | .list _ => "list" | .tuple _ => "tuple" | .dict _ => "dict"
theorem kit_all (t : Ty) : kitB "NoneType" (tyN t) = some false ∧ kitB "bool" (tyN t) = some (isTy (.bool true) t) ∧ kitB "int" (tyN t) = some (isTy (.int 0) t) ∧ kitB "str" (tyN t) = some (isTy (.str ⟨#[]⟩) t) ∧ kitB "list" (tyN t) = some (isTy (.list []) t) ∧ kitB "tuple" (tyN t) = some (isTy (.tuple []) t) := by
  cases t <;> decide +kernel
theorem kit_d (d : D) (h : ∀ ks, d ≠ .dict ks) (t : Ty) : kitB (dTy d) (tyN t) = some (isTy d t) := by
  obtain ⟨h1, h2, h3, h4, h5, h6⟩ := kit_all t
  cases d with
  | none => rw [show dTy PyData.none = "NoneType" from rfl, h1]; cases t <;> rfl
  | bool b => rw [show dTy (PyData.bool b) = "bool" from rfl, h2]; cases t <;> rfl
  | int b => rw [show dTy (PyData.int b) = "int" from rfl, h3]; cases t <;> rfl
  | str b => rw [show dTy (PyData.str b) = "str" from rfl, h4]; cases t <;> rfl
  | list b => rw [show dTy (PyData.list b) = "list" from rfl, h5]; cases t <;> rfl
  | tuple b => rw [show dTy (PyData.tuple b) = "tuple" from rfl, h6]; cases t <;> rfl
  | dict ks => exact absurd rfl (h ks)
theorem ty_x {F H : Hp} {x : V} {d : D} (sF : Same F H) (h : ∀ ks, d ≠ .dict ks) (hx : Vw K F H x d) : TyX K H x (.type (dTy d)) := by
  cases d with
  | none => have := hx.none_; subst this; exact .base .non
  | bool b => have := hx.bool; subst this; exact .base (.bl _)
  | int b => have := hx.int; subst this; exact .base (.int _)
  | str b => have := hx.str; subst this; exact .base (.str _)
  | list b =>
    obtain ⟨a, vs, rfl, ha, _⟩ := hx.list sF
    exact .base (.lst ha)
  | tuple b =>
    obtain ⟨a, vs, rfl, ha, _⟩ := hx.tuple
    rcases seqT_mono sF ha with z | ⟨o, its, n, z, zc, _⟩
    · rcases z with z | ⟨o, z⟩
      · exact .base (.tup z)
      · exact .fTuple z
    · exact .kTuple z zc
  | dict ks => exact absurd rfl (h ks)
def noDict : D → Bool
  | .dict _ => false
  | _ => true
theorem noDict_ok {d : D} (h : noDict d = true) : ∀ ks, d ≠ .dict ks := by
  intro ks e
  subst e
  cases h
def rIs1 (K : PySem.W.Frag) (t : Ty) : List V → Hp → VK → Prop := fun xs H Q => ∃ F x d, xs = [x, .ty (tyN t)] ∧ Same F H ∧ Vw K F H x d ∧ noDict d = true ∧ Q (.bl (isTy d t)) H
theorem fn_is1 (t : Ty) : CallR X (.builtin "isinstance") (rIs1 X.K t) := by
  intro pins s σ H xs us Q I r h
  obtain ⟨F, x, d, rfl, sF, hx, n, q⟩ := h
  exact call_isi pins s σ H _ us Q I r ⟨x, _, _, _, _, rfl, .ty _, ty_x sF (noDict_ok n) hx, kit_ty (kit_d d (noDict_ok n) t), q⟩
def rIsN (K : PySem.W.Frag) (ts : List Ty) : List V → Hp → VK → Prop := fun xs H Q => ∃ F x d p, xs = [x, .ref p] ∧ H p = some (.tup (ts.map fun t => V.ty (tyN t))) ∧ Same F H ∧ Vw K F H x d ∧ noDict d = true ∧ Q (.bl (ts.any (isTy d))) H
theorem fn_isN (ts : List Ty) : CallR X (.builtin "isinstance") (rIsN X.K ts) := by
  intro pins s σ H xs us Q I r h
  obtain ⟨F, x, d, p, rfl, hp, sF, hx, n, q⟩ := h
  have cls : ∀ ts : List Ty, Paired ClsV (ts.map fun t => V.ty (tyN t)) (ts.map fun t => Value.type (tyN t)) := by
    intro ts
    induction ts with
    | nil => exact .nil
    | cons t ts ih => exact .cons (.ty _) ih
  have any : ∀ ts : List Ty, PySem.W.kitAny X.K (.type (dTy d)) (ts.map fun t => Value.type (tyN t)) = some (ts.any (isTy d)) := by
    intro ts
    induction ts with
    | nil => rfl
    | cons t ts ih =>
      refine kitAny_cons (b := isTy d t) (kit_ty (kit_d d (noDict_ok n) t)) (fun z => ?_) fun z => ?_
      · rw [ih, List.any_cons, z, Bool.false_or]
      · rw [List.any_cons, z, Bool.true_or]
  exact call_isiT pins s σ H _ us Q I r ⟨x, p, _, _, _, _, rfl, hp, cls ts, ty_x sF (noDict_ok n) hx, any ts, q⟩
end Q
set_option autoImplicit false
set_option linter.all false
set_option maxRecDepth 100000
set_option maxHeartbeats 4000000
namespace Q
open PySem PySem.Spec PyProof.Rows L2
variable {X : Cx} {K : PySem.W.Frag} {F0 H0 : Hp} {Γ : List O}

def SlotOk (K : PySem.W.Frag) (H0 F H : Hp) (o : O) (v : Option V) (d : D) : Prop :=
  match o with
  | .dead => True
  | .frz => ∃ x, v = some x ∧ Rp K F x d
  | .own => ∃ x, v = some x ∧ OwV K F H x d ∧ ∀ p, x = .ref p → cont d = true → H0 p = none
structure Rel (K : PySem.W.Frag) (F0 H0 : Hp) (Γ : List O) (F H : Hp) (ρ : Env) (σ : L2.St) : Prop where
  in_ : Same F H
  same : Same H0 H
  sub : Same F0 F
  new : ∀ a o, F a = some o → F0 a = some o ∨ H0 a = none
  slot : ∀ (i : Nat) (d : D) (o : O), ρ[i]? = some (some d) → Γ[i]? = some o → ∃ v, σ[i]? = some v ∧ SlotOk K H0 F H o v d
  apart : ∀ (i j : Nat) (d e : D) (p : Addr), i ≠ j → Γ[i]? = some .own → Γ[j]? = some .own → ρ[i]? = some (some d) → ρ[j]? = some (some e) → cont d = true → cont e = true → σ[i]? = some (some (.ref p)) → σ[j]? = some (some (.ref p)) → False
  len : ρ.length = σ.length
section
variable {F H F' H' : Hp} {ρ : Env} {σ : L2.St}
theorem OwV.step {v : V} {d : D} (s : Step F H F' H') (h : OwV K F H v d) : OwV K F' H' v d := by
  refine ⟨fun e => (h.1 e).mono s.sub, fun e => ?_⟩
  obtain ⟨p, o, rfl, hF, hH, ow⟩ := h.2 e
  refine ⟨p, o, rfl, ?_, s.same _ _ hH, ow.mono s.sub⟩
  cases q : F' p with
  | none => rfl
  | some u =>
    rcases s.new p u q with z | z
    · rw [hF] at z; cases z
    · rw [hH] at z; cases z
theorem SlotOk.step {o : O} {v : Option V} {d : D} (s : Step F H F' H') (h : SlotOk K H0 F H o v d) : SlotOk K H0 F' H' o v d := by
  cases o with
  | dead => trivial
  | frz => obtain ⟨x, e, r⟩ := h; exact ⟨x, e, r.mono s.sub⟩
  | own => obtain ⟨x, e, r, n⟩ := h; exact ⟨x, e, r.step s, n⟩
theorem Rel.step (R : Rel K F0 H0 Γ F H ρ σ) (s : Step F H F' H') : Rel K F0 H0 Γ F' H' ρ σ where
  in_ := s.in_
  same := R.same.trans s.same
  sub := R.sub.trans s.sub
  new := fun a o e => by
    rcases s.new a o e with z | z
    · exact R.new a o z
    · exact .inr (R.same.free z)
  slot := fun i d o e1 e2 => by
    obtain ⟨v, e3, h⟩ := R.slot i d o e1 e2
    exact ⟨v, e3, h.step s⟩
  apart := R.apart
  len := R.len
theorem Rel.all (R : Rel K F0 H0 Γ F H ρ σ) : Step F0 H0 F H := ⟨R.sub, R.in_, R.same, R.new⟩
theorem Post.back {m : M} {v : V} {d : D} {σ' : L2.St} (hm : m = .own) (s : Same H F') (h : Post K m F' σ' v d F0 H0) : Post K m H σ v d F0 H0 := by
  subst hm
  exact ⟨h.1, fun p e c => s.free (h.2 p e c)⟩
end
def tE (K : PySem.W.Frag) (F0 H0 : Hp) (Γ : List O) (m : M) (f : Env → Option D) : TE := fun σ H Q => ∃ F ρ d, Rel K F0 H0 Γ F H ρ σ ∧ f ρ = some d ∧ ∀ v F' H', Step F H F' H' → Post K m H σ v d F' H' → Q v H'
def tV (K : PySem.W.Frag) (F0 H0 : Hp) (Γ : List O) (f : Env → Option D) : TE := fun σ H Q => ∃ F ρ d, Rel K F0 H0 Γ F H ρ σ ∧ f ρ = some d ∧ ∀ v F' H', Step F H F' H' → Vw K F' H' v d → Q v H'
def tB' (K : PySem.W.Frag) (F0 H0 : Hp) (Γ : List O) (f : Env → Option Bool) : TT := fun σ H Q => ∃ F ρ b, Rel K F0 H0 Γ F H ρ σ ∧ f ρ = some b ∧ ∀ F' H', Step F H F' H' → Q b H'
def tLF (K : PySem.W.Frag) (F0 H0 : Hp) (Γ : List O) (f : Env → Option (List D)) : TA := fun σ H Q => ∃ F ρ ds, Rel K F0 H0 Γ F H ρ σ ∧ f ρ = some ds ∧ ∀ vs F' H', Step F H F' H' → RpL K F' vs ds → Q vs H'
inductive VwL (K : PySem.W.Frag) (F H : Hp) : List V → List D → Prop
  | nil : VwL K F H [] []
  | cons {v : V} {vs : List V} {d : D} {ds : List D} : Vw K F H v d → VwL K F H vs ds → VwL K F H (v :: vs) (d :: ds)
def tLV (K : PySem.W.Frag) (F0 H0 : Hp) (Γ : List O) (f : Env → Option (List D)) : TA := fun σ H Q => ∃ F ρ ds, Rel K F0 H0 Γ F H ρ σ ∧ f ρ = some ds ∧ ∀ vs F' H', Step F H F' H' → VwL K F' H' vs ds → Q vs H'
theorem VwL.rpH {F H : Hp} (s : Same F H) : ∀ {vs : List V} {ds : List D}, VwL K F H vs ds → RpL K H vs ds
  | _, _, .nil => .nil
  | _, _, .cons h t => .cons (h.rpH s) (VwL.rpH s t)

theorem PE.mono {e : Expr} {t t' : TE} (h : PE X e t) (g : ∀ σ H Q, t' σ H Q → t σ H Q) : PE X e t' := ⟨fun pins s σ H Q I hw => h.run pins s σ H Q I (g σ H Q hw)⟩
theorem PT.mono {e : Expr} {t t' : TT} (h : PT X e t) (g : ∀ σ H Q, t' σ H Q → t σ H Q) : PT X e t' := ⟨fun pins s σ H Q I hw => h.run pins s σ H Q I (g σ H Q hw)⟩
theorem PW.mono {e : Expr} {t t' : TT} (h : PW X e t) (g : ∀ σ H Q, t' σ H Q → t σ H Q) : PW X e t' := ⟨fun wh pins s σ H Q I hw => h.run wh pins s σ H Q I (g σ H Q hw)⟩
theorem PA.mono {es : List Expr} {t t' : TA} (h : PA X es t) (g : ∀ σ H Q, t' σ H Q → t σ H Q) : PA X es t' := ⟨fun pos pins s σ H Q I hw => h.run pos pins s σ H Q I (g σ H Q hw)⟩
section
variable {e : Expr} {f : Env → Option D} {m : M}
theorem PE.vw (h : PE X e (tE K F0 H0 Γ m f)) : PE X e (tV K F0 H0 Γ f) := PE.mono h fun σ H Q ⟨F, ρ, d, R, e1, q⟩ => ⟨F, ρ, d, R, e1, fun v F' H' s p => q v F' H' s p.vw⟩
def frzable : M → Bool
  | .pl _ => false
  | _ => true
theorem PE.fz (hm : frzable m = true) (h : PE X e (tE K F0 H0 Γ m f)) : PE X e (tE K F0 H0 Γ .frz f) := by
  cases m with
  | frz => exact h
  | own =>
    refine PE.mono h fun σ H Q ⟨F, ρ, d, R, e1, q⟩ => ⟨F, ρ, d, R, e1, fun v F' H' s p => ?_⟩
    obtain ⟨F2, s2, _, r⟩ := p.1.freeze s p.2
    exact q v F2 H' s2 r
  | pl i => cases hm
end

section
variable {a b c : Expr} {fa fb fc : Env → Option D} {pos : Pos}
def modeO (i : Nat) : O → M
  | .own => .pl i
  | _ => .frz
theorem q_var {i : Nat} {x : Str} (hN : X.N[i]? = some x) (hv : Vis X.env.scope x) (hd : (x == ("__debug__" : Str)) = false) (hcd : (x == ("__classdict__" : Str)) = false) {o : O} (hΓ : Γ[i]? = some o) (ho : o ≠ .dead) :
    PE X (.Name x pos) (tE K F0 H0 Γ (modeO i o) fun ρ => (ρ[i]?).join) := by
  refine PE.mono (pe_var hN hv hd hcd) fun σ H Q ⟨F, ρ, d, R, e1, q⟩ => ?_
  have e1 : (ρ[i]?).join = some d := e1
  have e2 : ρ[i]? = some (some d) := by
    cases z : ρ[i]? with
    | none => rw [z] at e1; cases e1
    | some w => rw [z] at e1; rw [show w = some d from e1]
  obtain ⟨v, ev, hs⟩ := R.slot i d o e2 hΓ
  cases o with
  | dead => exact absurd rfl ho
  | frz =>
    obtain ⟨y, rfl, r⟩ := hs
    exact ⟨y, ev, q y F H (.refl R.in_) r⟩
  | own =>
    obtain ⟨y, rfl, r, n⟩ := hs
    exact ⟨y, ev, q y F H (.refl R.in_) ⟨r, ev⟩⟩
theorem q_const {e : Expr} {v : V} {d : D} (h : PE X e (tC v)) (r : ∀ F : Hp, Rp K F v d) : PE X e (tE K F0 H0 Γ .frz fun _ => some d) :=
  PE.mono h fun σ H Q ⟨F, ρ, d', R, e1, q⟩ => by
    cases e1
    exact q v F H (.refl R.in_) (r F)
theorem q_bin (hK : X.K = K) (o : Bop) (ha : PE X a (tV K F0 H0 Γ fa)) (hb : PE X b (tV K F0 H0 Γ fb)) :
    PE X (.BinOp a (bopOf o) b pos) (tE K F0 H0 Γ .own fun ρ => (fa ρ).bind fun x => (fb ρ).bind fun y => binD o x y) := by
  subst hK
  refine PE.mono (pe_op (op_bin o) ha hb) fun σ H Q ⟨F, ρ, d, R, e1, q⟩ => ?_
  simp only [Option.bind_eq_some_iff] at e1
  obtain ⟨x, ex, y, ey, ed⟩ := e1
  exact ⟨F, ρ, x, R, ex, fun v F1 H1 s1 w1 => ⟨F1, ρ, y, R.step s1, ey, fun u F2 H2 s2 w2 => ⟨F2, x, y, d, s2.in_, w1.mono s2, w2, ed, fun z F3 H3 s3 p3 => q z F3 H3 (s1.trans (s2.trans s3)) (p3.back rfl (s1.same.trans s2.same))⟩⟩⟩
theorem q_cmp (hK : X.K = K) (hu : X.A.units + 65 < cLine) (o : Cop) (hm : behindInMarks (copOf o) b = false) (ha : PE X a (tV K F0 H0 Γ fa)) (hb : PE X b (tV K F0 H0 Γ fb)) :
    PE X (.Compare a [copOf o] [b] pos) (tE K F0 H0 Γ .frz fun ρ => (fa ρ).bind fun x => (fb ρ).bind fun y => (cmpD o x y).map .bool) := by
  subst hK
  refine PE.mono (pe_cmpR (op_cmp hu o) ha hb hm) fun σ H Q ⟨F, ρ, d, R, e1, q⟩ => ?_
  simp only [Option.bind_eq_some_iff, Option.map_eq_some_iff] at e1
  obtain ⟨x, ex, y, ey, k, ek, rfl⟩ := e1
  exact ⟨F, ρ, x, R, ex, fun v F1 H1 s1 w1 => ⟨F1, ρ, y, R.step s1, ey, fun u F2 H2 s2 w2 => ⟨F2, x, y, k, s2.in_, w1.mono s2, w2, ek, q _ F2 H2 (s1.trans s2) (.bl k)⟩⟩⟩
theorem q_cmpT (hK : X.K = K) (hu : X.A.units + 65 < cLine) (o : Cop) (hm : behindInMarks (copOf o) b = false) (ha : PE X a (tV K F0 H0 Γ fa)) (hb : PE X b (tV K F0 H0 Γ fb)) :
    PT X (.Compare a [copOf o] [b] pos) (tB' K F0 H0 Γ fun ρ => (fa ρ).bind fun x => (fb ρ).bind fun y => cmpD o x y) := by
  subst hK
  refine PT.mono (pt_cmpR (op_cmp hu o) ha hb hm) fun σ H Q ⟨F, ρ, d, R, e1, q⟩ => ?_
  simp only [Option.bind_eq_some_iff] at e1
  obtain ⟨x, ex, y, ey, ek⟩ := e1
  exact ⟨F, ρ, x, R, ex, fun v F1 H1 s1 w1 => ⟨F1, ρ, y, R.step s1, ey, fun u F2 H2 s2 w2 => ⟨F2, x, y, d, s2.in_, w1.mono s2, w2, ek, d, rfl, q F2 H2 (s1.trans s2)⟩⟩⟩
theorem q_chn (hK : X.K = K) (hu : X.A.units + 65 < cLine) (o1 o2 : Cop) (hm : lastMarks [copOf o1, copOf o2] [b, c] = false) (ha : PE X a (tV K F0 H0 Γ fa)) (hb : PE X b (tV K F0 H0 Γ fb)) (hc : PE X c (tV K F0 H0 Γ fc)) :
    PE X (.Compare a [copOf o1, copOf o2] [b, c] pos) (tE K F0 H0 Γ .frz fun ρ => (fa ρ).bind fun x => (fb ρ).bind fun y => (cmpD o1 x y).bind fun
      | true => (fc ρ).bind fun z => (cmpD o2 y z).map .bool
      | false => some (.bool false)) := by
  subst hK
  refine PE.mono (pe_chain (op_cmp hu o1) (op_cmp hu o2) ha hb hc hm) fun σ H Q ⟨F, ρ, d, R, e1, q⟩ => ?_
  simp only [Option.bind_eq_some_iff] at e1
  obtain ⟨x, ex, y, ey, k, ek, e2⟩ := e1
  refine ⟨F, ρ, x, R, ex, fun v F1 H1 s1 w1 => ⟨F1, ρ, y, R.step s1, ey, fun u F2 H2 s2 w2 => ⟨F2, x, y, k, s2.in_, w1.mono s2, w2, ek, k, rfl, ?_⟩⟩⟩
  cases k with
  | false =>
    cases e2
    rw [if_neg Bool.false_ne_true]
    exact q _ F2 H2 (s1.trans s2) (.bl false)
  | true =>
    simp only [Option.bind_eq_some_iff, Option.map_eq_some_iff] at e2
    obtain ⟨z, ez, k2, ek2, rfl⟩ := e2
    rw [if_pos rfl]
    exact ⟨F2, ρ, z, (R.step s1).step s2, ez, fun w F3 H3 s3 w3 => ⟨F3, y, z, k2, s3.in_, w2.mono s3, w3, ek2, q _ F3 H3 (s1.trans (s2.trans s3)) (.bl k2)⟩⟩
theorem q_chnT (hK : X.K = K) (hu : X.A.units + 65 < cLine) (o1 o2 : Cop) (hm : lastMarks [copOf o1, copOf o2] [b, c] = false) (ha : PE X a (tV K F0 H0 Γ fa)) (hb : PE X b (tV K F0 H0 Γ fb)) (hc : PE X c (tV K F0 H0 Γ fc)) :
    PT X (.Compare a [copOf o1, copOf o2] [b, c] pos) (tB' K F0 H0 Γ fun ρ => (fa ρ).bind fun x => (fb ρ).bind fun y => (cmpD o1 x y).bind fun
      | true => (fc ρ).bind fun z => cmpD o2 y z
      | false => some false) := by
  subst hK
  refine PT.mono (pt_chain (op_cmp hu o1) (op_cmp hu o2) ha hb hc hm) fun σ H Q ⟨F, ρ, d, R, e1, q⟩ => ?_
  simp only [Option.bind_eq_some_iff] at e1
  obtain ⟨x, ex, y, ey, k, ek, e2⟩ := e1
  refine ⟨F, ρ, x, R, ex, fun v F1 H1 s1 w1 => ⟨F1, ρ, y, R.step s1, ey, fun u F2 H2 s2 w2 => ⟨F2, x, y, k, s2.in_, w1.mono s2, w2, ek, k, rfl, ?_⟩⟩⟩
  cases k with
  | false =>
    cases e2
    rw [if_neg Bool.false_ne_true]
    exact ⟨false, rfl, q F2 H2 (s1.trans s2)⟩
  | true =>
    simp only [Option.bind_eq_some_iff] at e2
    obtain ⟨z, ez, ek2⟩ := e2
    rw [if_pos rfl]
    exact ⟨F2, ρ, z, (R.step s1).step s2, ez, fun w F3 H3 s3 w3 => ⟨F3, y, z, d, s3.in_, w2.mono s3, w3, ek2, d, rfl, q F3 H3 (s1.trans (s2.trans s3))⟩⟩
theorem q_isN {j : Nat} {pos' : Pos} (ha : PE X a (tV K F0 H0 Γ fa)) (ng : Bool) {op : CmpOp} (hop : op = if ng then .IsNot else .Is) :
    PE X (.Compare a [op] [.Constant .none j pos'] pos) (tE K F0 H0 Γ .frz fun ρ => (fa ρ).map fun
      | .none => .bool (!ng)
      | _ => .bool ng) := by
  have nn : ∀ {F H : Hp} {v : V} {d : D}, Vw K F H v d → decide (v = .non) = (match d with | .none => true | _ => false) := fun {F H v d} w => by
    cases w with
    | rp r => cases r <;> simp [scrD]
    | lst _ _ => simp
    | dct _ _ => simp
  subst hop
  cases ng with
  | false =>
    refine PE.mono (pe_cmp (pc_isN ha) (by cases a <;> rfl)) fun σ H Q ⟨F, ρ, d, R, e1, q⟩ => ?_
    simp only [Option.map_eq_some_iff] at e1
    obtain ⟨x, ex, e2⟩ := e1
    refine ⟨F, ρ, x, R, ex, fun v F1 H1 s1 w1 => ?_⟩
    have e3 : d = .bool (decide (v = .non)) := by rw [nn w1, ← e2]; cases x <;> rfl
    exact q _ F1 H1 s1 (by rw [e3]; exact .bl _)
  | true =>
    refine PE.mono (pe_cmp (pc_notN ha) (by cases a <;> rfl)) fun σ H Q ⟨F, ρ, d, R, e1, q⟩ => ?_
    simp only [Option.map_eq_some_iff] at e1
    obtain ⟨x, ex, e2⟩ := e1
    refine ⟨F, ρ, x, R, ex, fun v F1 H1 s1 w1 => ?_⟩
    have e3 : d = .bool (!decide (v = .non)) := by rw [nn w1, ← e2]; cases x <;> rfl
    exact q _ F1 H1 s1 (by rw [e3]; exact .bl _)
theorem q_isB {j : Nat} {pos' : Pos} (ha : PE X a (tV K F0 H0 Γ fa)) (t ng : Bool) {op : CmpOp} (hop : op = if ng then .IsNot else .Is) :
    PE X (.Compare a [op] [.Constant (.bool t) j pos'] pos) (tE K F0 H0 Γ .frz fun ρ => (fa ρ).bind fun
      | .bool b => some (.bool ((b == t) != ng))
      | _ => none) := by
  subst hop
  have dt : ∀ b : Bool, decide (b = t) = (b == t) := fun b => by cases b <;> cases t <;> rfl
  cases ng with
  | false =>
    refine PE.mono (pe_cmpR op_isBl ha pe_bl (by rfl)) fun σ H Q ⟨F, ρ, d, R, e1, q⟩ => ?_
    simp only [Option.bind_eq_some_iff] at e1
    obtain ⟨x, ex, e2⟩ := e1
    refine ⟨F, ρ, x, R, ex, fun v F1 H1 s1 w1 => ?_⟩
    cases x with
    | bool b =>
      have := w1.bool
      subst this
      cases e2
      refine ⟨b, t, rfl, rfl, ?_⟩
      rw [dt]
      exact q _ F1 H1 s1 (by cases (b == t) <;> exact .bl _)
    | _ => cases e2
  | true =>
    refine PE.mono (pe_cmpR op_notBl ha pe_bl (by rfl)) fun σ H Q ⟨F, ρ, d, R, e1, q⟩ => ?_
    simp only [Option.bind_eq_some_iff] at e1
    obtain ⟨x, ex, e2⟩ := e1
    refine ⟨F, ρ, x, R, ex, fun v F1 H1 s1 w1 => ?_⟩
    cases x with
    | bool b =>
      have := w1.bool
      subst this
      cases e2
      refine ⟨b, t, rfl, rfl, ?_⟩
      rw [dt]
      exact q _ F1 H1 s1 (by cases (b == t) <;> exact .bl _)
    | _ => cases e2
theorem tru_vw {F H : Hp} {v : V} {d : D} {k : Bool} (s : Same F H) (w : Vw K F H v d) (e : tru d = some k) : TruV K v H k := by
  cases d with
  | none => have := w.none_; subst this; exact (Option.some.inj e).symm
  | bool b => have := w.bool; subst this; exact (Option.some.inj e).symm
  | int i => have := w.int; subst this; exact (Option.some.inj e).symm
  | list xs =>
    obtain ⟨a, vs, rfl, ha, ra⟩ := w.list s
    have e : (!xs.isEmpty) = k := Option.some.inj e
    refine .inl ⟨vs, .inl (.inl ha), ?_⟩
    rw [← e]
    cases ra <;> rfl
  | tuple xs =>
    obtain ⟨a, vs, rfl, ha, ra⟩ := w.tuple
    have e : (!xs.isEmpty) = k := Option.some.inj e
    refine .inr (.inl ⟨vs, seqT_mono s ha, ?_⟩)
    rw [← e]
    cases ra <;> rfl
  | _ => simp [tru] at e
theorem q_not (hK : X.K = K) (ha : PE X a (tV K F0 H0 Γ fa)) : PE X (.UnaryOp .Not a pos) (tE K F0 H0 Γ .frz fun ρ => (fa ρ).bind fun x => (tru x).map fun c => .bool (!c)) := by
  subst hK
  refine PE.mono (pe_notT ha) fun σ H Q ⟨F, ρ, d, R, e1, q⟩ => ?_
  simp only [Option.bind_eq_some_iff, Option.map_eq_some_iff] at e1
  obtain ⟨x, ex, k, ek, rfl⟩ := e1
  exact ⟨F, ρ, x, R, ex, fun v F1 H1 s1 w1 => ⟨k, tru_vw s1.in_ w1 ek, q _ F1 H1 s1 (.bl _)⟩⟩
theorem q_and {rest : List Expr} (hK : X.K = K) (ha : PE X a (tE K F0 H0 Γ .frz fa)) (hb : PE X (.BoolOp .And (b :: rest) pos) (tE K F0 H0 Γ .frz fb)) :
    PE X (.BoolOp .And (a :: b :: rest) pos) (tE K F0 H0 Γ .frz fun ρ => (fa ρ).bind fun x => (tru x).bind fun
      | true => fb ρ
      | false => some x) := by
  subst hK
  refine PE.mono (pe_andT ha hb) fun σ H Q ⟨F, ρ, d, R, e1, q⟩ => ?_
  simp only [Option.bind_eq_some_iff] at e1
  obtain ⟨x, ex, k, ek, e2⟩ := e1
  refine ⟨F, ρ, x, R, ex, fun v F1 H1 s1 w1 => ⟨k, tru_vw s1.in_ (.rp w1) ek, ?_⟩⟩
  cases k with
  | true =>
    rw [if_pos rfl]
    exact ⟨F1, ρ, d, R.step s1, e2, fun u F2 H2 s2 w2 => q u F2 H2 (s1.trans s2) w2⟩
  | false =>
    cases e2
    rw [if_neg Bool.false_ne_true]
    exact q v F1 H1 s1 w1
theorem q_or {rest : List Expr} (hK : X.K = K) (ha : PE X a (tE K F0 H0 Γ .frz fa)) (hb : PE X (.BoolOp .Or (b :: rest) pos) (tE K F0 H0 Γ .frz fb)) :
    PE X (.BoolOp .Or (a :: b :: rest) pos) (tE K F0 H0 Γ .frz fun ρ => (fa ρ).bind fun x => (tru x).bind fun
      | true => some x
      | false => fb ρ) := by
  subst hK
  refine PE.mono (pe_orT ha hb) fun σ H Q ⟨F, ρ, d, R, e1, q⟩ => ?_
  simp only [Option.bind_eq_some_iff] at e1
  obtain ⟨x, ex, k, ek, e2⟩ := e1
  refine ⟨F, ρ, x, R, ex, fun v F1 H1 s1 w1 => ⟨k, tru_vw s1.in_ (.rp w1) ek, ?_⟩⟩
  cases k with
  | true =>
    cases e2
    rw [if_pos rfl]
    exact q v F1 H1 s1 w1
  | false =>
    rw [if_neg Bool.false_ne_true]
    exact ⟨F1, ρ, d, R.step s1, e2, fun u F2 H2 s2 w2 => q u F2 H2 (s1.trans s2) w2⟩
variable {ga gb : Env → Option Bool}
theorem q_tru (hK : X.K = K) {e : Expr} {f : Env → Option D} (h : PE X e (tV K F0 H0 Γ f)) (he : ∀ whole, isTrue e X.env whole = (do let v ← whole; standAt e.pos; holding [v] (truthy v))) :
    PT X e (tB' K F0 H0 Γ fun ρ => (f ρ).bind tru) := by
  subst hK
  refine ⟨fun pins s σ H Q I ⟨F, ρ, b, R, e1, q⟩ => ?_⟩
  simp only [Option.bind_eq_some_iff] at e1
  obtain ⟨x, ex, ek⟩ := e1
  refine isTrue_plain (thn (h.run pins s σ H (fun v H1 => TruV X.K v H1 b ∧ Q b H1) I ⟨F, ρ, x, R, ex, fun v F1 H1 s1 w1 => ⟨tru_vw s1.in_ w1 ek, q F1 H1 s1⟩⟩) fun v s1 ⟨y, H1, I1, r1, t1, q1⟩ => ?_) (he _)
  exact tru_ok pins s1 σ H1 y v Q I1 r1 ⟨b, t1, q1⟩
theorem q_notT (ha : PT X a (tB' K F0 H0 Γ ga)) : PT X (.UnaryOp .Not a pos) (tB' K F0 H0 Γ fun ρ => (ga ρ).map not) :=
  PT.mono (pt_not ha) fun σ H Q ⟨F, ρ, d, R, e1, q⟩ => by
    simp only [Option.map_eq_some_iff] at e1
    obtain ⟨k, ek, rfl⟩ := e1
    exact ⟨F, ρ, k, R, ek, fun F1 H1 s1 => q F1 H1 s1⟩
theorem q_andT {rest : List Expr} (ha : PT X a (tB' K F0 H0 Γ ga)) (hb : PW X (.BoolOp .And (b :: rest) pos) (tB' K F0 H0 Γ gb)) :
    PW X (.BoolOp .And (a :: b :: rest) pos) (tB' K F0 H0 Γ fun ρ => (ga ρ).bind fun
      | true => gb ρ
      | false => some false) :=
  PW.mono (pw_and ha hb) fun σ H Q ⟨F, ρ, d, R, e1, q⟩ => by
    simp only [Option.bind_eq_some_iff] at e1
    obtain ⟨k, ek, e2⟩ := e1
    refine ⟨F, ρ, k, R, ek, fun F1 H1 s1 => ?_⟩
    cases k with
    | true =>
      rw [if_pos rfl]
      exact ⟨F1, ρ, d, R.step s1, e2, fun F2 H2 s2 => q F2 H2 (s1.trans s2)⟩
    | false =>
      cases e2
      rw [if_neg Bool.false_ne_true]
      exact q F1 H1 s1
theorem q_orT {rest : List Expr} (ha : PT X a (tB' K F0 H0 Γ ga)) (hb : PW X (.BoolOp .Or (b :: rest) pos) (tB' K F0 H0 Γ gb)) :
    PW X (.BoolOp .Or (a :: b :: rest) pos) (tB' K F0 H0 Γ fun ρ => (ga ρ).bind fun
      | true => some true
      | false => gb ρ) :=
  PW.mono (pw_or ha hb) fun σ H Q ⟨F, ρ, d, R, e1, q⟩ => by
    simp only [Option.bind_eq_some_iff] at e1
    obtain ⟨k, ek, e2⟩ := e1
    refine ⟨F, ρ, k, R, ek, fun F1 H1 s1 => ?_⟩
    cases k with
    | true =>
      cases e2
      rw [if_pos rfl]
      exact q F1 H1 s1
    | false =>
      rw [if_neg Bool.false_ne_true]
      exact ⟨F1, ρ, d, R.step s1, e2, fun F2 H2 s2 => q F2 H2 (s1.trans s2)⟩
theorem q_neg (ha : PE X a (tV K F0 H0 Γ fa)) : PE X (.UnaryOp .USub a pos) (tE K F0 H0 Γ .frz fun ρ => (fa ρ).bind fun
    | .int i => some (.int (-i))
    | _ => none) :=
  PE.mono (pe_un un_neg ha) fun σ H Q ⟨F, ρ, d, R, e1, q⟩ => by
    simp only [Option.bind_eq_some_iff] at e1
    obtain ⟨x, ex, e2⟩ := e1
    refine ⟨F, ρ, x, R, ex, fun v F1 H1 s1 w1 => ?_⟩
    cases x with
    | int i =>
      have := w1.int
      subst this
      cases e2
      exact ⟨i, rfl, q _ F1 H1 s1 (.int _)⟩
    | _ => cases e2
theorem q_ix (hK : X.K = K) (hu : X.A.units + 1 < cLine) (hp : PlainIx b) (ha : PE X a (tV K F0 H0 Γ fa)) (hb : PE X b (tV K F0 H0 Γ fb)) :
    PE X (.Subscript a b pos) (tE K F0 H0 Γ .frz fun ρ => (fa ρ).bind fun x => (fb ρ).bind fun y => ixD x y) := by
  subst hK
  refine PE.mono (pe_ix (ix_any hu) ha hb hp) fun σ H Q ⟨F, ρ, d, R, e1, q⟩ => ?_
  simp only [Option.bind_eq_some_iff] at e1
  obtain ⟨x, ex, y, ey, ed⟩ := e1
  exact ⟨F, ρ, x, R, ex, fun v F1 H1 s1 w1 => ⟨F1, ρ, y, R.step s1, ey, fun u F2 H2 s2 w2 => ⟨F2, x, y, d, s2.in_, w1.mono s2, w2, ed, fun z r => q z F2 H2 (s1.trans s2) r⟩⟩⟩
theorem q_slu {p2 : Pos} (hK : X.K = K) (ha : PE X a (tV K F0 H0 Γ fa)) (hb : PE X b (tV K F0 H0 Γ fb)) :
    PE X (.Subscript a (.Slice none (some b) none p2) pos) (tE K F0 H0 Γ .own fun ρ => (fa ρ).bind fun x => (fb ρ).bind fun
      | .int i => slD none (some i) x
      | _ => none) := by
  subst hK
  refine PE.mono (pe_slice sl_any ha po_none (po_some hb)) fun σ H Q ⟨F, ρ, d, R, e1, q⟩ => ?_
  simp only [Option.bind_eq_some_iff] at e1
  obtain ⟨x, ex, y, ey, ed⟩ := e1
  refine ⟨F, ρ, x, R, ex, fun v F1 H1 s1 w1 => ⟨F1, ρ, y, R.step s1, ey, fun u F2 H2 s2 w2 => ?_⟩⟩
  cases y with
  | int i =>
    have := w2.int
    subst this
    exact ⟨i, rfl, F2, x, d, s2.in_, w1.mono s2, ed, fun z F3 H3 s3 p3 => q z F3 H3 (s1.trans (s2.trans s3)) (p3.back rfl (s1.same.trans s2.same))⟩
  | _ => cases ed
theorem q_sll {p2 : Pos} (hK : X.K = K) (ha : PE X a (tV K F0 H0 Γ fa)) (hb : PE X b (tV K F0 H0 Γ fb)) :
    PE X (.Subscript a (.Slice (some b) none none p2) pos) (tE K F0 H0 Γ .own fun ρ => (fa ρ).bind fun x => (fb ρ).bind fun
      | .int i => slD (some i) none x
      | _ => none) := by
  subst hK
  refine PE.mono (pe_slice sl_any ha (po_some hb) po_none) fun σ H Q ⟨F, ρ, d, R, e1, q⟩ => ?_
  simp only [Option.bind_eq_some_iff] at e1
  obtain ⟨x, ex, y, ey, ed⟩ := e1
  refine ⟨F, ρ, x, R, ex, fun v F1 H1 s1 w1 => ⟨F1, ρ, y, R.step s1, ey, fun u F2 H2 s2 w2 => ?_⟩⟩
  cases y with
  | int i =>
    have := w2.int
    subst this
    exact ⟨i, rfl, F2, x, d, s2.in_, w1.mono s2, ed, fun z F3 H3 s3 p3 => q z F3 H3 (s1.trans (s2.trans s3)) (p3.back rfl (s1.same.trans s2.same))⟩
  | _ => cases ed
theorem q_slb {p2 : Pos} (hK : X.K = K) (ha : PE X a (tV K F0 H0 Γ fa)) (hb : PE X b (tV K F0 H0 Γ fb)) (hc : PE X c (tV K F0 H0 Γ fc)) :
    PE X (.Subscript a (.Slice (some b) (some c) none p2) pos) (tE K F0 H0 Γ .own fun ρ => (fa ρ).bind fun x => (fb ρ).bind fun
      | .int i => (fc ρ).bind fun
        | .int j => slD (some i) (some j) x
        | _ => none
      | _ => none) := by
  subst hK
  refine PE.mono (pe_slice sl_any ha (po_some hb) (po_some hc)) fun σ H Q ⟨F, ρ, d, R, e1, q⟩ => ?_
  simp only [Option.bind_eq_some_iff] at e1
  obtain ⟨x, ex, y, ey, ed⟩ := e1
  refine ⟨F, ρ, x, R, ex, fun v F1 H1 s1 w1 => ⟨F1, ρ, y, R.step s1, ey, fun u F2 H2 s2 w2 => ?_⟩⟩
  cases y with
  | int i =>
    have := w2.int
    subst this
    simp only [Option.bind_eq_some_iff] at ed
    obtain ⟨z, ez, ed⟩ := ed
    refine ⟨i, rfl, F2, ρ, z, (R.step s1).step s2, ez, fun w F3 H3 s3 w3 => ?_⟩
    cases z with
    | int j =>
      have := w3.int
      subst this
      exact ⟨j, rfl, F3, x, d, s3.in_, (w1.mono s2).mono s3, ed, fun z F4 H4 s4 p4 => q z F4 H4 (s1.trans (s2.trans (s3.trans s4))) (p4.back rfl (s1.same.trans (s2.same.trans s3.same)))⟩
    | _ => cases ed
  | _ => cases ed
theorem q_rev {k : Nat} {p1 p2 p3 : Pos} (hK : X.K = K) (ha : PE X a (tV K F0 H0 Γ fa)) :
    PE X (.Subscript a (.Slice none none (some (.UnaryOp .USub (.Constant (.int 1) k p1) p2)) p3) pos) (tE K F0 H0 Γ .own fun ρ => (fa ρ).bind revD) := by
  subst hK
  refine PE.mono (pe_revL ha) fun σ H Q ⟨F, ρ, d, R, e1, q⟩ => ?_
  simp only [Option.bind_eq_some_iff] at e1
  obtain ⟨x, ex, ed⟩ := e1
  refine ⟨F, ρ, x, R, ex, fun v F1 H1 s1 w1 => ?_⟩
  cases x with
  | list xs =>
    cases ed
    obtain ⟨a, vs, rfl, ha, ra⟩ := w1.list s1.in_
    refine ⟨a, vs, rfl, .inl (.inl ha), fun p hp => ?_⟩
    obtain ⟨s2, p2⟩ := post_list (K := X.K) (σ := σ) s1.in_ hp ra.rev
    exact q _ _ _ (s1.trans s2) (p2.back rfl s1.same)
  | _ => cases ed
variable {es : List Expr} {fl : Env → Option (List D)}
theorem q_tup {k : Nat} (hs : PA X es (tLF K F0 H0 Γ fl)) : PE X (.Tuple es k pos) (tE K F0 H0 Γ .frz fun ρ => (fl ρ).bind fun ds => gate (decide (ds.length ≤ SL)) (.tuple ds)) :=
  PE.mono (pe_tup hs) fun σ H Q ⟨F, ρ, d, R, e1, q⟩ => by
    simp only [Option.bind_eq_some_iff] at e1
    obtain ⟨ds, ex, ed⟩ := e1
    obtain ⟨g1, g2⟩ := gate_some ed
    subst g2
    refine ⟨F, ρ, ds, R, ex, fun vs F1 H1 s1 w1 => ⟨by rw [w1.length, sl_eq]; exact of_decide_eq_true g1, fun p hp => ?_⟩⟩
    obtain ⟨s2, p2⟩ := post_tup (K := K) s1.in_ hp w1
    exact q _ _ _ (s1.trans s2) p2
theorem q_lst (hs : PA X es (tLF K F0 H0 Γ fl)) : PE X (.List es pos) (tE K F0 H0 Γ .own fun ρ => (fl ρ).bind fun ds => gate (decide (ds.length ≤ SL)) (.list ds)) :=
  PE.mono (pe_lst hs) fun σ H Q ⟨F, ρ, d, R, e1, q⟩ => by
    simp only [Option.bind_eq_some_iff] at e1
    obtain ⟨ds, ex, ed⟩ := e1
    obtain ⟨g1, g2⟩ := gate_some ed
    subst g2
    refine ⟨F, ρ, ds, R, ex, fun vs F1 H1 s1 w1 => ⟨by rw [w1.length, sl_eq]; exact of_decide_eq_true g1, fun p hp => ?_⟩⟩
    obtain ⟨s2, p2⟩ := post_list (K := K) (σ := σ) s1.in_ hp w1
    exact q _ _ _ (s1.trans s2) (p2.back rfl s1.same)
theorem q_dc0 : PE X (.Dict [] [] pos) (tE K F0 H0 Γ .own fun _ => some (.dict [])) :=
  PE.mono pe_dnewK fun σ H Q ⟨F, ρ, d, R, e1, q⟩ => by
    cases e1
    intro p hp
    obtain ⟨s2, p2⟩ := post_dict (K := K) (σ := σ) R.in_ hp .nil
    exact q _ _ _ s2 p2
theorem q_nilF : PA X [] (tLF K F0 H0 Γ fun _ => some []) := PA.mono pa_nil fun σ H Q ⟨F, ρ, d, R, e1, q⟩ => by cases e1; exact q _ F H (.refl R.in_) .nil
theorem q_nilV : PA X [] (tLV K F0 H0 Γ fun _ => some []) := PA.mono pa_nil fun σ H Q ⟨F, ρ, d, R, e1, q⟩ => by cases e1; exact q _ F H (.refl R.in_) .nil
theorem q_consF (hs : starEach (a :: es) X.env = (false, eval a X.env) :: starEach es X.env) (ha : PE X a (tE K F0 H0 Γ .frz fa)) (hr : PA X es (tLF K F0 H0 Γ fl)) :
    PA X (a :: es) (tLF K F0 H0 Γ fun ρ => (fa ρ).bind fun d => (fl ρ).map (d :: ·)) := PA.mono (pa_cons ha hr hs) fun σ H Q ⟨F, ρ, d, R, e1, q⟩ => by
  simp only [Option.bind_eq_some_iff, Option.map_eq_some_iff] at e1
  obtain ⟨x, ex, ys, ey, rfl⟩ := e1
  exact ⟨F, ρ, x, R, ex, fun v F1 H1 s1 w1 => ⟨F1, ρ, ys, R.step s1, ey, fun vs F2 H2 s2 w2 => q _ F2 H2 (s1.trans s2) (.cons (w1.mono s2.sub) w2)⟩⟩
theorem VwL.mono {F H F' H' : Hp} (s : Step F H F' H') : ∀ {vs : List V} {ds : List D}, VwL K F H vs ds → VwL K F' H' vs ds
  | _, _, .nil => .nil
  | _, _, .cons h t => .cons (h.mono s) (VwL.mono s t)
theorem q_consV (hs : starEach (a :: es) X.env = (false, eval a X.env) :: starEach es X.env) (ha : PE X a (tV K F0 H0 Γ fa)) (hr : PA X es (tLV K F0 H0 Γ fl)) :
    PA X (a :: es) (tLV K F0 H0 Γ fun ρ => (fa ρ).bind fun d => (fl ρ).map (d :: ·)) := PA.mono (pa_cons ha hr hs) fun σ H Q ⟨F, ρ, d, R, e1, q⟩ => by
  simp only [Option.bind_eq_some_iff, Option.map_eq_some_iff] at e1
  obtain ⟨x, ex, ys, ey, rfl⟩ := e1
  exact ⟨F, ρ, x, R, ex, fun v F1 H1 s1 w1 => ⟨F1, ρ, ys, R.step s1, ey, fun vs F2 H2 s2 w2 => q _ F2 H2 (s1.trans s2) (.cons (w1.mono s2) w2)⟩⟩
end
end Q
set_option autoImplicit false
set_option linter.all false
set_option maxRecDepth 100000
set_option maxHeartbeats 4000000
namespace Q
open PySem PySem.Spec PyProof.Rows L2
variable {X : Cx} {K : PySem.W.Frag} {F0 H0 : Hp} {Γ : List O}

section
variable {F H : Hp} {ρ : Env} {σ : L2.St}
theorem Rel.set_ (R : Rel K F0 H0 Γ F H ρ σ) {i : Nat} {v : V} {d : D} (r : Rp K F v d) : Rel K F0 H0 (Γ.set i .frz) F H (ρ.set i (some d)) (σ.set i (some v)) where
  in_ := R.in_
  same := R.same
  sub := R.sub
  new := R.new
  slot := fun j e o e1 e2 => by
    by_cases hj : i = j
    · subst hj
      have hl : i < ρ.length := by
        have := (List.getElem?_eq_some_iff.mp e1).1
        simpa using this
      have hg : i < Γ.length := by
        have := (List.getElem?_eq_some_iff.mp e2).1
        simpa using this
      rw [List.getElem?_set_self hl] at e1
      rw [List.getElem?_set_self hg] at e2
      cases e1
      cases e2
      exact ⟨some v, List.getElem?_set_self (by rw [← R.len]; exact hl), v, rfl, r⟩
    · rw [List.getElem?_set_ne hj] at e1 e2 ⊢
      exact R.slot j e o e1 e2
  apart := fun j k d1 d2 p hn e1 e2 e3 e4 c1 c2 s1 s2 => by
    have nj : i ≠ j := fun z => by
      subst z
      have hg : i < Γ.length := by have := (List.getElem?_eq_some_iff.mp e1).1; simpa using this
      rw [List.getElem?_set_self hg] at e1
      cases e1
    have nk : i ≠ k := fun z => by
      subst z
      have hg : i < Γ.length := by have := (List.getElem?_eq_some_iff.mp e2).1; simpa using this
      rw [List.getElem?_set_self hg] at e2
      cases e2
    rw [List.getElem?_set_ne nj] at e1 e3 s1
    rw [List.getElem?_set_ne nk] at e2 e4 s2
    exact R.apart j k d1 d2 p hn e1 e2 e3 e4 c1 c2 s1 s2
  len := by rw [List.length_set, List.length_set]; exact R.len
theorem wipe_len (ρ : Env) : ∀ vs : List Nat, (Q.wipe ρ vs).length = ρ.length
  | [] => rfl
  | v :: vs => by rw [Q.wipe, List.length_set, wipe_len ρ vs]
theorem wipe_someQ {i : Nat} {d : D} : ∀ {vs : List Nat}, (Q.wipe ρ vs)[i]? = some (some d) → ρ[i]? = some (some d) ∧ i ∉ vs
  | [], h => ⟨h, by simp⟩
  | v :: vs, h => by
    rw [Q.wipe] at h
    by_cases hi : v = i
    · subst hi
      by_cases hv : v < (Q.wipe ρ vs).length
      · rw [List.getElem?_set_self hv] at h; cases h
      · rw [List.getElem?_eq_none (by simpa using hv)] at h; cases h
    · rw [List.getElem?_set_ne hi] at h
      obtain ⟨h1, h2⟩ := wipe_someQ h
      exact ⟨h1, by simp only [List.mem_cons, not_or]; exact ⟨fun e => hi e.symm, h2⟩⟩
theorem Rel.wipe (R : Rel K F0 H0 Γ F H ρ σ) (vs : List Nat) : Rel K F0 H0 Γ F H (Q.wipe ρ vs) (L2.wipe σ vs) where
  in_ := R.in_
  same := R.same
  sub := R.sub
  new := R.new
  slot := fun i d o e1 e2 => by
    obtain ⟨h1, h2⟩ := wipe_someQ e1
    rw [wipe_out h2]
    exact R.slot i d o h1 e2
  apart := fun i j d e p hn e1 e2 e3 e4 c1 c2 s1 s2 => by
    obtain ⟨h1, h2⟩ := wipe_someQ e3
    obtain ⟨h3, h4⟩ := wipe_someQ e4
    rw [wipe_out h2] at s1
    rw [wipe_out h4] at s2
    exact R.apart i j d e p hn e1 e2 h1 h3 c1 c2 s1 s2
  len := by rw [wipe_len, wipe_length]; exact R.len
theorem wipe_set {i : Nat} {v : Option V} : ∀ {vs : List Nat}, i ∈ vs → L2.wipe (σ.set i v) vs = L2.wipe σ vs
  | [], h => by cases h
  | w :: vs, h => by
    show (L2.wipe (σ.set i v) vs).set w none = (L2.wipe σ vs).set w none
    by_cases hi : i ∈ vs
    · rw [wipe_set hi]
    · have e : i = w := by
        rcases List.mem_cons.mp h with e | e
        · exact e
        · exact absurd e hi
      subst e
      have key : ∀ us : List Nat, i ∉ us → L2.wipe (σ.set i v) us = (L2.wipe σ us).set i v := by
        intro us
        induction us with
        | nil => intro _; rfl
        | cons u us ih =>
          intro hn
          simp only [List.mem_cons, not_or] at hn
          show (L2.wipe (σ.set i v) us).set u none = ((L2.wipe σ us).set u none).set i v
          rw [ih hn.2, List.set_comm _ _ hn.1]
      rw [key vs hi, List.set_set]
end
theorem wipe_get {σ : L2.St} {i : Nat} : ∀ vs : List Nat, (L2.wipe σ vs)[i]? = if i ∈ vs then (if i < σ.length then some none else none) else σ[i]?
  | [] => by simp [L2.wipe]
  | w :: vs => by
    show ((L2.wipe σ vs).set w none)[i]? = _
    by_cases hw : w = i
    · subst hw
      by_cases hl : w < σ.length
      · rw [List.getElem?_set_self (by rw [wipe_length]; exact hl)]; simp [hl]
      · rw [List.getElem?_eq_none (by rw [List.length_set, wipe_length]; omega)]; simp [hl]
    · rw [List.getElem?_set_ne hw, wipe_get vs]
      have : (i ∈ w :: vs) ↔ i ∈ vs := by simp [Ne.symm hw]
      simp only [this]
theorem wipe_wipe (σ : L2.St) (vs : List Nat) : L2.wipe (L2.wipe σ vs) vs = L2.wipe σ vs := by
  apply List.ext_getElem?
  intro i
  rw [wipe_get, wipe_get, wipe_length]
  split <;> rfl
def psl : P → List Nat
  | .nm i => [i]
  | .tp is => is
def setG (Γ : List O) : List Nat → List O
  | [] => Γ
  | i :: is => setG (Γ.set i .frz) is

def gSeq : List Nat → TGs
  | [] => gNil
  | i :: is => gCons (gName i) (gSeq is)
def gP (K : PySem.W.Frag) : P → TG
  | .nm i => gName i
  | .tp is => gTup K is.length (gSeq is)
theorem seq_ok {F H : Hp} {k : L2.St → Hp → Prop} : ∀ (is : List Nat) (Γ : List O) (ds : List D) (vs : List V) (ρ ρ1 : Env) (σ : L2.St), Rel K F0 H0 Γ F H ρ σ → RpL K F vs ds → setAll is ds ρ = some ρ1 →
    (∀ σ1, Rel K F0 H0 (setG Γ is) F H ρ1 σ1 → (∀ ws : List Nat, (∀ i ∈ is, i ∈ ws) → L2.wipe σ1 ws = L2.wipe σ ws) → k σ1 H) → gSeq is vs σ H k
  | [], Γ, ds, vs, ρ, ρ1, σ, R, r, e, h => by
    cases ds with
    | nil =>
      cases r
      cases e
      exact ⟨rfl, h σ R fun _ _ => rfl⟩
    | cons d ds => cases e
  | i :: is, Γ, ds, vs, ρ, ρ1, σ, R, r, e, h => by
    cases ds with
    | nil => cases e
    | cons d ds =>
      cases r with
      | cons r1 r2 =>
        unfold setAll at e
        split at e
        · refine ⟨_, _, rfl, seq_ok is (Γ.set i .frz) ds _ _ ρ1 _ (R.set_ r1) r2 e fun σ1 R1 w1 => h σ1 R1 fun ws hi => ?_⟩
          rw [w1 ws fun j hj => hi j (List.mem_cons_of_mem _ hj)]
          exact wipe_set (hi i (by simp))
        · cases e
theorem bind_ok {F H : Hp} {k : L2.St → Hp → Prop} {p : P} {Γ : List O} {d : D} {v : V} {ρ ρ1 : Env} {σ : L2.St} (R : Rel K F0 H0 Γ F H ρ σ) (r : Rp K F v d) (e : bindP p d ρ = some ρ1)
    (h : ∀ σ1, Rel K F0 H0 (setG Γ (psl p)) F H ρ1 σ1 → (∀ ws : List Nat, (∀ i ∈ psl p, i ∈ ws) → L2.wipe σ1 ws = L2.wipe σ ws) → k σ1 H) : gP K p v σ H k := by
  cases p with
  | nm i =>
    have e : (if i < ρ.length then some (ρ.set i (some d)) else none) = some ρ1 := e
    split at e
    · cases e
      exact h _ (R.set_ r) fun ws hi => wipe_set (hi i (by simp [psl]))
    · cases e
  | tp is =>
    cases d with
    | tuple ds =>
      cases r with
      | tup h1 h2 =>
        have e : setAll is ds ρ = some ρ1 := e
        have hl : ∀ (is : List Nat) (ds : List D) (ρ ρ1 : Env), setAll is ds ρ = some ρ1 → is.length = ds.length := by
          intro is
          induction is with
          | nil => intro ds ρ ρ1 e; cases ds with | nil => rfl | cons _ _ => cases e
          | cons i is ih =>
            intro ds ρ ρ1 e
            cases ds with
            | nil => cases e
            | cons d ds =>
              unfold setAll at e
              split at e
              · simp [ih _ _ _ e]
              · cases e
        exact ⟨_, _, rfl, seqT_mono R.in_ h1, by rw [h2.length, hl _ _ _ _ e], seq_ok is Γ ds _ ρ ρ1 σ R h2 e h⟩
    | _ => cases e

def WalkD (K : PySem.W.Frag) (J : It) (S F : Hp) (ds : List D) : Prop := ∃ vs, RpL K F vs ds ∧ ∀ i H, Same S H → (i < ds.length → J.go i H ∧ ∀ x H', J.yld i H x H' → H' = H ∧ vs[i]? = some x) ∧ (ds.length ≤ i → J.stop i H)
def tI (K : PySem.W.Frag) (F0 H0 : Hp) (Γ : List O) (f : Env → Option (List D)) : TI := fun σ H R => ∃ F ρ ds, Rel K F0 H0 Γ F H ρ σ ∧ f ρ = some ds ∧ ∀ J F' H' S, Step F H F' H' → Same S H' → WalkD K J S F' ds → ds.length ≤ SL → R J H'
def only (a : Addr) (o : HO) : Hp := fun b => if b = a then some o else none
theorem only_same {H : Hp} {a : Addr} {o : HO} (h : H a = some o) : Same (only a o) H := fun b u e => by
  unfold only at e
  split at e
  · rename_i z; subst z; cases e; exact h
  · cases e
theorem only_at {a : Addr} {o : HO} : only a o a = some o := by unfold only; rw [if_pos rfl]
theorem it_list {a : Addr} {vs : List V} {ds : List D} {F : Hp} (r : RpL K F vs ds) : WalkD K (Itl K a) (only a (.lst vs)) F ds := by
  refine ⟨vs, r, fun i H s => ⟨fun hi => ⟨?_, fun x H' y => ⟨y.1, y.2 vs (.inl (.inl (s _ _ only_at)))⟩⟩, fun hi => ⟨vs, .inl (.inl (s _ _ only_at)), by rw [r.length]; exact hi⟩⟩⟩
  exact ⟨vs, vs[i]'(by rw [r.length]; exact hi), .inl (.inl (s _ _ only_at)), by simp⟩
theorem it_tup {a : Addr} {vs : List V} {ds : List D} {F S : Hp} (hs : SqT K S a vs) (r : RpL K F vs ds) : WalkD K (Itt K a) S F ds := by
  refine ⟨vs, r, fun i H s => ⟨fun hi => ⟨?_, fun x H' y => ⟨y.1, y.2 vs (seqT_mono s hs)⟩⟩, fun hi => ⟨vs, seqT_mono s hs, by rw [r.length]; exact hi⟩⟩⟩
  exact ⟨vs, vs[i]'(by rw [r.length]; exact hi), seqT_mono s hs, by simp⟩
theorem it_rng {lo : Int} {n : Nat} {F S : Hp} : WalkD K (Itr lo n) S F ((List.range n).map fun k => PyData.int (lo + (k : Nat))) := by
  refine ⟨(List.range n).map fun k => V.int (lo + (k : Nat)), ?_, fun i H s => ⟨fun hi => ⟨(show i < n by simpa using hi), fun x H' y => ⟨y.1, ?_⟩⟩, fun hi => (show n ≤ i by simpa using hi)⟩⟩
  · generalize List.range n = l
    induction l with
    | nil => exact .nil
    | cons k l ih => exact .cons (.int _) ih
  · have hi : i < n := by simpa using hi
    rw [List.getElem?_map, List.getElem?_range hi, y.2]
    rfl
section
variable {tg l a b : Expr} {fa fb : Env → Option D} {pos p2 : Pos}
theorem q_it (hK : X.K = K) (hl : PE X l (tV K F0 H0 Γ fa)) : PI X tg l (tI K F0 H0 Γ fun ρ => (fa ρ).bind itemsD) := by
  subst hK
  refine ⟨fun pins s σ H R I ⟨F, ρ, ds, Rr, e1, q⟩ => ?_⟩
  simp only [Option.bind_eq_some_iff] at e1
  obtain ⟨d, ed, e2⟩ := e1
  refine thn (hl.run pins s σ H (fun v H1 => ∃ F1, Step F H F1 H1 ∧ Vw X.K F1 H1 v d) I ⟨F, ρ, d, Rr, ed, fun v F1 H1 s1 w1 => ⟨F1, s1, w1⟩⟩) fun u s1 ⟨x, H1, I1, r1, F1, st, w⟩ => ?_
  cases d with
  | list xs =>
    cases e2
    obtain ⟨c, vs, rfl, hc, rc⟩ := w.list st.in_
    cases r1
    obtain ⟨its, rv, pl, hz⟩ := I1.list (.inl (.inl hc))
    refine wpAny_pyIter_list pl.isList ⟨s1.heap.objs.size, [s1.heap.objs.size], _, _, H1, rfl, I1.kept (t' := s1.toks) (fun b o e => Heap.get?_push_of_some _ e), turn_list c _, ⟨_, Heap.get?_push_size _ rfl, rfl, rfl⟩, fun z hz2 => ?_, ?_⟩
    · have e : z = s1.heap.objs.size := by simpa using hz2
      rw [e]
      exact I1.fpOk (Nat.le_refl _) (I1.hok.fresh (Nat.le_refl _))
    · exact q _ F1 H1 _ st (only_same hc) (it_list rc) (by rw [← rc.length, ← sl_eq]; exact hz)
  | tuple xs =>
    cases e2
    obtain ⟨c, vs, rfl, hc, rc⟩ := w.tuple
    cases r1
    have hc2 := seqT_mono st.in_ hc
    obtain ⟨its, rv, pl, hz⟩ := I1.tuple hc2
    refine wpAny_pyIter_tuple (show s1.heap.IsTuple c its.toArray from pl) ⟨s1.heap.objs.size, [s1.heap.objs.size], _, _, H1, rfl, I1.kept (t' := s1.toks) (fun b o e => Heap.get?_push_of_some _ e), turn_tuple c _, ⟨_, Heap.get?_push_size _ rfl, rfl, rfl⟩, fun z hz2 => ?_, ?_⟩
    · have e : z = s1.heap.objs.size := by simpa using hz2
      rw [e]
      exact I1.fpOk (Nat.le_refl _) (I1.hok.fresh (Nat.le_refl _))
    · exact q _ F1 H1 F1 st st.in_ (it_tup hc rc) (by rw [← rc.length, ← sl_eq]; exact hz)
  | _ => cases e2
theorem rng_some {i j : Int} {ds : List D} (h : rngD i j = some ds) : (-1000000000 ≤ i ∧ i ≤ 1000000000 ∧ -1000000000 ≤ j ∧ j ≤ 1000000000 ∧ j - i ≤ 1000000) ∧ ds = (List.range (j - i).toNat).map fun k => PyData.int (i + (k : Nat)) := by
  obtain ⟨h1, h2⟩ := gate_some h
  simp only [Bool.and_eq_true, decide_eq_true_eq] at h1
  exact ⟨h1, h2.symm⟩
theorem q_rng1 (hg : Gl X "range") (hm : X.mg "range" = none) (hs : starEach [a] X.env = [(false, eval a X.env)]) (ha : PE X a (tV K F0 H0 Γ fa)) :
    PI X tg (.Call (.Name "range" p2) [a] [] pos) (tI K F0 H0 Γ fun ρ => ((fa ρ).bind fun
      | .int j => (rngD 0 j).map PyData.list
      | _ => none).bind itemsD) := by
  have h := pi_range1 (tg := tg) (p := p2) (pos := pos) hg hm (pa_cons ha pa_nil hs) hs
  refine ⟨fun pins s σ H R I ⟨F, ρ, ds, Rr, e1, q⟩ => h.run pins s σ H R I ?_⟩
  simp only [Option.bind_eq_some_iff] at e1
  obtain ⟨d, ⟨x, ex, e3⟩, e4⟩ := e1
  refine ⟨F, ρ, x, Rr, ex, fun v F1 H1 s1 w1 => ?_⟩
  cases x with
  | int j =>
    simp only [Option.map_eq_some_iff] at e3
    obtain ⟨es, e5, rfl⟩ := e3
    cases e4
    obtain ⟨⟨b1, b2, b3, b4, b5⟩, e6⟩ := rng_some e5
    have := w1.int
    subst this
    refine ⟨j, rfl, by omega, by omega, ?_⟩
    have e7 : ds = (List.range j.toNat).map fun k => PyData.int (0 + (k : Nat)) := by rw [e6, Int.sub_zero]
    rw [e7] at q
    exact q _ F1 H1 (fun _ => none) s1 (fun _ _ z => by cases z) it_rng (by rw [List.length_map, List.length_range]; show _ ≤ 16777216; omega)
  | _ => cases e3
theorem q_rng2 (hg : Gl X "range") (hm : X.mg "range" = none) (hs : starEach [a, b] X.env = [(false, eval a X.env), (false, eval b X.env)]) (hs2 : starEach [b] X.env = [(false, eval b X.env)]) (ha : PE X a (tV K F0 H0 Γ fa)) (hb : PE X b (tV K F0 H0 Γ fb)) :
    PI X tg (.Call (.Name "range" p2) [a, b] [] pos) (tI K F0 H0 Γ fun ρ => ((fa ρ).bind fun
      | .int i => (fb ρ).bind fun
        | .int j => (rngD i j).map PyData.list
        | _ => none
      | _ => none).bind itemsD) := by
  have h := pi_range2 (tg := tg) (p := p2) (pos := pos) hg hm (pa_cons ha (pa_cons hb pa_nil hs2) (by rw [hs, hs2])) hs hs2
  refine ⟨fun pins s σ H R I ⟨F, ρ, ds, Rr, e1, q⟩ => h.run pins s σ H R I ?_⟩
  simp only [Option.bind_eq_some_iff] at e1
  obtain ⟨d, ⟨x, ex, e3⟩, e4⟩ := e1
  refine ⟨F, ρ, x, Rr, ex, fun v F1 H1 s1 w1 => ?_⟩
  cases x with
  | int i =>
    simp only [Option.bind_eq_some_iff] at e3
    obtain ⟨y, ey, e3⟩ := e3
    refine ⟨F1, ρ, y, Rr.step s1, ey, fun u F2 H2 s2 w2 => ?_⟩
    cases y with
    | int j =>
      simp only [Option.map_eq_some_iff] at e3
      obtain ⟨es, e5, rfl⟩ := e3
      cases e4
      obtain ⟨⟨b1, b2, b3, b4, b5⟩, e6⟩ := rng_some e5
      have := w1.int
      subst this
      have := w2.int
      subst this
      refine ⟨i, j, rfl, ⟨by omega, by omega, by omega, by omega⟩, ?_⟩
      rw [e6] at q
      exact q _ F2 H2 (fun _ => none) (s1.trans s2) (fun _ _ z => by cases z) it_rng (by rw [List.length_map, List.length_range]; show _ ≤ 16777216; omega)
    | _ => cases e3
  | _ => cases e3
end

structure At (F1 H1 F H : Hp) (p : Addr) : Prop where
  st : Step F1 H1 F H
  no : F p = none
theorem At.step {F1 H1 F H F' H' : Hp} {p : Addr} {o : HO} (a : At F1 H1 F H p) (hp : H p = some o) (s : Step F H F' H') : At F1 H1 F' H' p ∧ H' p = some o := by
  refine ⟨⟨a.st.trans s, ?_⟩, s.same _ _ hp⟩
  cases q : F' p with
  | none => rfl
  | some u =>
    rcases s.new p u q with z | z
    · rw [a.no] at z; cases z
    · rw [hp] at z; cases z
theorem At.put {F1 H1 F H : Hp} {p : Addr} {o : HO} (a : At F1 H1 F H p) (h1 : H1 p = none) : At F1 H1 F (upd H p o) p := by
  refine ⟨⟨a.st.sub, fun b u e => ?_, fun b u e => ?_, a.st.new⟩, a.no⟩
  · by_cases hb : b = p
    · subst hb; rw [a.no] at e; cases e
    · rw [upd_ne hb]; exact a.st.in_ _ _ e
  · by_cases hb : b = p
    · subst hb; rw [h1] at e; cases e
    · rw [upd_ne hb]; exact a.st.same _ _ e
theorem At.begin {F1 H1 : Hp} {p : Addr} {o : HO} (s : Same F1 H1) (h1 : H1 p = none) : At F1 H1 F1 (upd H1 p o) p := At.put ⟨.refl s, s.free h1⟩ h1
theorem fmM_len {f : D → Option (Option D)} : ∀ {ds es : List D}, fmM f ds = some es → es.length ≤ ds.length
  | [], es, h => by cases h; exact Nat.le_refl _
  | d :: ds, es, h => by
    unfold fmM at h
    simp only [Option.bind_eq_some_iff] at h
    obtain ⟨o, _, h⟩ := h
    cases o with
    | none => exact Nat.le_succ_of_le (fmM_len h)
    | some y =>
      simp only [Option.map_eq_some_iff] at h
      obtain ⟨zs, hz, rfl⟩ := h
      exact Nat.succ_le_succ (fmM_len hz)
def turnF (own : List Nat) (p : P) (fc : Env → Option Bool) (fe : Env → Option D) (ρ : Env) (d : D) : Option (Option D) := (bindP p d (Q.wipe ρ own)).bind fun ρ1 => (fc ρ1).bind fun
  | true => (fe ρ1).map some
  | false => some none
theorem lc_ok {p : P} {vs : List Nat} {fi : Env → Option (List D)} {fc : Env → Option Bool} {fe : Env → Option D} {tt : TT} {te : TE} (hp : ∀ i ∈ psl p, i ∈ vs)
    (hc : ∀ σ H Q, tB' K F0 H0 (setG Γ (psl p)) fc σ H Q → tt σ H Q) (he : ∀ σ H Q, tE K F0 H0 (setG Γ (psl p)) .frz fe σ H Q → te σ H Q) (σ : L2.St) (H : Hp) (Q : VK)
    (h : tE K F0 H0 Γ .own (fun ρ => (fi ρ).bind fun ds => (fmM (turnF vs p fc fe ρ) ds).map PyData.list) σ H Q) : tLc (tI K F0 H0 Γ fi) (gP K p) tt te vs σ H Q := by
  obtain ⟨F, ρ, d, R, e1, q⟩ := h
  simp only [Option.bind_eq_some_iff, Option.map_eq_some_iff] at e1
  obtain ⟨ds, ei, es, ef, rfl⟩ := e1
  refine ⟨F, ρ, ds, R, ei, fun J F1 H1 S s1 hS ⟨ws, rw_, hw⟩ hsl Dd hD => ?_⟩
  refine ⟨fun i m H2 => m = ds.length - i ∧ i ≤ ds.length ∧ ∃ F2 acc accD rest, At F1 H1 F2 H2 Dd ∧ H2 Dd = some (.lst acc) ∧ RpL K F2 acc accD ∧ fmM (turnF vs p fc fe ρ) (ds.drop i) = some rest ∧ es = accD ++ rest ∧ accD.length ≤ i,
    ⟨ds.length, by simp, Nat.zero_le _, F1, [], [], es, .begin s1.in_ hD, upd_same, .nil, by simpa using ef, rfl, Nat.le_refl _⟩, ?_⟩
  rintro i m H2 ⟨rfl, hi, F2, acc, accD, rest, A2, hD2, ra, er, ee, hl⟩
  obtain ⟨hgo, hstop⟩ := hw i H2 (hS.trans A2.st.same)
  by_cases hlt : i < ds.length
  · obtain ⟨go, yl⟩ := hgo hlt
    refine .inr ⟨go, fun H' => ∃ F2 acc accD rest, At F1 H1 F2 H' Dd ∧ H' Dd = some (.lst acc) ∧ RpL K F2 acc accD ∧ fmM (turnF vs p fc fe ρ) (ds.drop (i + 1)) = some rest ∧ es = accD ++ rest ∧ accD.length ≤ i + 1,
      fun H' n => ⟨ds.length - (i + 1), by omega, rfl, hlt, n⟩, fun x H' y => ?_⟩
    obtain ⟨rfl, hx⟩ := yl x H' y
    have hd : ds[i]? = some ds[i] := List.getElem?_eq_getElem hlt
    obtain ⟨x', hx', rx⟩ := rw_.get hd
    rw [hx] at hx'
    cases hx'
    rw [List.drop_eq_getElem_cons hlt] at er
    unfold fmM at er
    simp only [Option.bind_eq_some_iff] at er
    obtain ⟨o, eo, er⟩ := er
    unfold turnF at eo
    simp only [Option.bind_eq_some_iff] at eo
    obtain ⟨ρ1, eb, cb, ec, eo⟩ := eo
    have R2 : Rel K F0 H0 Γ F2 H' ρ σ := (R.step s1).step A2.st
    refine bind_ok (R2.wipe vs) (rx.mono A2.st.sub) eb fun σ1 R3 w3 => ⟨?_, hc _ _ _ ⟨F2, ρ1, cb, R3, ec, fun F3 H3 s3 => ?_⟩⟩
    · rw [w3 vs hp]
      exact wipe_wipe σ vs
    · obtain ⟨A3, hD3⟩ := A2.step hD2 s3
      cases cb with
      | false =>
        rw [if_neg Bool.false_ne_true]
        cases eo
        exact ⟨F3, acc, accD, rest, A3, hD3, ra.mono s3.sub, er, ee, Nat.le_succ_of_le hl⟩
      | true =>
        rw [if_pos rfl]
        simp only [Option.map_eq_some_iff] at eo
        obtain ⟨y2, ey, rfl⟩ := eo
        simp only [Option.map_eq_some_iff] at er
        obtain ⟨rest2, er2, rfl⟩ := er
        refine he _ _ _ ⟨F3, ρ1, y2, R3.step s3, ey, fun z F4 H4 s4 r4 => ?_⟩
        obtain ⟨A4, hD4⟩ := A3.step hD3 s4
        refine ⟨acc, hD4, by rw [ra.length, sl_eq]; omega, F4, acc ++ [z], accD ++ [y2], rest2, A4.put hD, upd_same, ((ra.mono s3.sub).mono s4.sub).app (.one r4), er2, ?_, ?_⟩
        · rw [ee]; simp
        · rw [List.length_append]; simp; omega
  · have e : i = ds.length := by omega
    subst e
    rw [List.drop_length] at er
    cases er
    refine .inl ⟨hstop (Nat.le_refl _), ?_⟩
    rw [List.append_nil] at ee
    subst ee
    exact q _ F2 H2 (s1.trans A2.st) ⟨⟨fun e => by simp [cont] at e, fun _ => ⟨Dd, _, rfl, A2.no, hD2, .lst ra⟩⟩, fun z e _ => by cases e; exact s1.same.free hD⟩
end Q
set_option autoImplicit false
set_option linter.all false
set_option maxRecDepth 100000
set_option maxHeartbeats 4000000
namespace Q
open PySem PySem.Spec PyProof.Rows L2
variable {X : Cx} {K : PySem.W.Frag} {F0 H0 : Hp} {Γ : List O}
theorem dput_len {k : Int ⊕ Str} {v : D} {kvs : List (D × D)} : (dput k v kvs).length ≤ kvs.length + 1 := by
  unfold dput
  split
  · rw [List.length_map]; omega
  · rw [List.length_append]; simp
def turnD (own : List Nat) (p : P) (fk fv : Env → Option D) (ρ : Env) (acc : List (D × D)) (d : D) : Option (List (D × D)) := (bindP p d (Q.wipe ρ own)).bind fun ρ1 =>
  (fk ρ1).bind fun x => (keyOf x).bind fun q => (fv ρ1).map fun y => dput q y acc
theorem dc_ok {p : P} {vs : List Nat} {fi : Env → Option (List D)} {fk fv : Env → Option D} {tk tv : TE} (hp : ∀ i ∈ psl p, i ∈ vs)
    (hk : ∀ σ H Q, tV K F0 H0 (setG Γ (psl p)) fk σ H Q → tk σ H Q) (he : ∀ σ H Q, tE K F0 H0 (setG Γ (psl p)) .frz fv σ H Q → tv σ H Q) (σ : L2.St) (H : Hp) (Q : VK)
    (h : tE K F0 H0 Γ .own (fun ρ => (fi ρ).bind fun ds => (ds.foldlM (turnD vs p fk fv ρ) []).map PyData.dict) σ H Q) : tDc (tI K F0 H0 Γ fi) (gP K p) tYes tk tv vs σ H Q := by
  obtain ⟨F, ρ, d, R, e1, q⟩ := h
  simp only [Option.bind_eq_some_iff, Option.map_eq_some_iff] at e1
  obtain ⟨ds, ei, es, ef, rfl⟩ := e1
  refine ⟨F, ρ, ds, R, ei, fun J F1 H1 S s1 hS ⟨ws, rw_, hw⟩ hsl Dd hD => ?_⟩
  refine ⟨fun i m H2 => m = ds.length - i ∧ i ≤ ds.length ∧ ∃ F2 acc accD, At F1 H1 F2 H2 Dd ∧ H2 Dd = some (.dK acc) ∧ RpK K F2 acc accD ∧ (ds.drop i).foldlM (turnD vs p fk fv ρ) accD = some es ∧ accD.length ≤ i,
    ⟨ds.length, by simp, Nat.zero_le _, F1, [], [], .begin s1.in_ hD, upd_same, .nil, by simpa using ef, Nat.le_refl _⟩, ?_⟩
  rintro i m H2 ⟨rfl, hi, F2, acc, accD, A2, hD2, ra, er, hl⟩
  obtain ⟨hgo, hstop⟩ := hw i H2 (hS.trans A2.st.same)
  by_cases hlt : i < ds.length
  · obtain ⟨go, yl⟩ := hgo hlt
    refine .inr ⟨go, fun H' => ∃ F2 acc accD, At F1 H1 F2 H' Dd ∧ H' Dd = some (.dK acc) ∧ RpK K F2 acc accD ∧ (ds.drop (i + 1)).foldlM (turnD vs p fk fv ρ) accD = some es ∧ accD.length ≤ i + 1,
      fun H' n => ⟨ds.length - (i + 1), by omega, rfl, hlt, n⟩, fun x H' y => ?_⟩
    obtain ⟨rfl, hx⟩ := yl x H' y
    have hd : ds[i]? = some ds[i] := List.getElem?_eq_getElem hlt
    obtain ⟨x', hx', rx⟩ := rw_.get hd
    rw [hx] at hx'
    cases hx'
    rw [List.drop_eq_getElem_cons hlt, List.foldlM_cons] at er
    simp only [Option.bind_eq_bind, Option.bind_eq_some_iff] at er
    obtain ⟨acc2, eo, er⟩ := er
    unfold turnD at eo
    simp only [Option.bind_eq_some_iff, Option.map_eq_some_iff] at eo
    obtain ⟨ρ1, eb, kx, ek, kq, eq_, y2, ey, rfl⟩ := eo
    have R2 : Rel K F0 H0 Γ F2 H' ρ σ := (R.step s1).step A2.st
    refine bind_ok (R2.wipe vs) (rx.mono A2.st.sub) eb fun σ1 R3 w3 => ⟨?_, ?_⟩
    · rw [w3 vs hp]
      exact wipe_wipe σ vs
    · refine hk σ1 H' _ ⟨F2, ρ1, kx, R3, ek, fun z F3 H3 s3 w3 => he _ _ _ ⟨F3, ρ1, y2, R3.step s3, ey, fun z2 F4 H4 s4 r4 => ?_⟩⟩
      obtain ⟨A3, hD3⟩ := A2.step hD2 s3
      obtain ⟨A4, hD4⟩ := A3.step hD3 s4
      have := dput_len (k := kq) (v := y2) (kvs := accD)
      exact ⟨acc, kq, key_rel w3 eq_, hD4, by rw [ra.length, sl_eq]; omega, F4, _, _, A4.put hD, upd_same, putK_dput r4 ((ra.mono s3.sub).mono s4.sub), er, by omega⟩
  · have e : i = ds.length := by omega
    subst e
    rw [List.drop_length] at er
    cases er
    refine .inl ⟨hstop (Nat.le_refl _), ?_⟩
    exact q _ F2 H2 (s1.trans A2.st) ⟨⟨fun e => by simp [cont] at e, fun _ => ⟨Dd, _, rfl, A2.no, hD2, .dct ra⟩⟩, fun z e _ => by cases e; exact s1.same.free hD⟩
section
variable {elt kx vx tg iter : Expr} {ifs : List Expr} {scope : Scope} {own : List (Str × Nat)} {pos : Pos} {p : P} {fi : Env → Option (List D)} {fc : Env → Option Bool} {fe fk : Env → Option D} {tt : TT}
theorem q_lc (hcalm : X.calm = true) (hN : X.N.Nodup) (hi : PI X tg iter (tI K F0 H0 Γ fi)) (ok : BlkOk X.N X.env.scope scope own) (hp : ∀ i ∈ psl p, i ∈ own.map (·.2))
    (hg : ∀ (s : Shared) (H : Hp) (C : Addr) (cl : List (Str × Addr)) (fp : List Addr), PG (X.blk s H scope (compEnvC scope cl C X.env) fp) tg (gP K p)) (ht : ∀ (s : Shared) (H : Hp) (C : Addr) (cl : List (Str × Addr)) (fp : List Addr), PTs (X.blk s H scope (compEnvC scope cl C X.env) fp) ifs tt)
    (htt : ∀ σ H Q, tB' K F0 H0 (setG Γ (psl p)) fc σ H Q → tt σ H Q)
    (he : ∀ (s : Shared) (H : Hp) (C : Addr) (cl : List (Str × Addr)) (fp : List Addr), PE (X.blk s H scope (compEnvC scope cl C X.env) fp) elt (tE K F0 H0 (setG Γ (psl p)) .frz fe)) (hs : ∀ x, foldedSetIterable iter X.env x = pure x) :
    PE X (.ListComp elt [⟨tg, iter, ifs, 0⟩] scope pos) (tE K F0 H0 Γ .own fun ρ => (fi ρ).bind fun ds => (fmM (turnF (own.map (·.2)) p fc fe ρ) ds).map PyData.list) :=
  PE.mono (pe_lc hcalm hN hi ok hg ht he hs) fun σ H Q h => lc_ok hp htt (fun _ _ _ z => z) σ H Q h
theorem q_dc (hcalm : X.calm = true) (hN : X.N.Nodup) (hi : PI X tg iter (tI K F0 H0 Γ fi)) (ok : BlkOk X.N X.env.scope scope own) (hp : ∀ i ∈ psl p, i ∈ own.map (·.2))
    (hg : ∀ (s : Shared) (H : Hp) (C : Addr) (cl : List (Str × Addr)) (fp : List Addr), PG (X.blk s H scope (compEnvC scope cl C X.env) fp) tg (gP K p))
    (hk : ∀ (s : Shared) (H : Hp) (C : Addr) (cl : List (Str × Addr)) (fp : List Addr), PE (X.blk s H scope (compEnvC scope cl C X.env) fp) kx (tV K F0 H0 (setG Γ (psl p)) fk))
    (he : ∀ (s : Shared) (H : Hp) (C : Addr) (cl : List (Str × Addr)) (fp : List Addr), PE (X.blk s H scope (compEnvC scope cl C X.env) fp) vx (tE K F0 H0 (setG Γ (psl p)) .frz fe)) (hs : ∀ x, foldedSetIterable iter X.env x = pure x) :
    PE X (.DictComp kx vx [⟨tg, iter, [], 0⟩] scope pos) (tE K F0 H0 Γ .own fun ρ => (fi ρ).bind fun ds => (ds.foldlM (turnD (own.map (·.2)) p fk fe ρ) []).map PyData.dict) :=
  PE.mono (pe_dc hcalm hN hi ok hg (fun _ _ _ _ _ => pts_nil) hk he hs) fun σ H Q h => dc_ok hp (fun _ _ _ z => z) (fun _ _ _ z => z) σ H Q h
end

def spG (K : PySem.W.Frag) (n : Nat) (fr : Bool) (φ : List D → Option D) : Sp := fun vs H Q _ => vs.length = n ∧ ∃ F ds d, Same F H ∧ RpL K F vs ds ∧ φ ds = some d ∧ ∀ v F' H', Step F H F' H' → Post K (if fr then .own else .frz) H [] v d F' H' → Q v H'
def FnAt (X : Cx) (k : Nat) (g : Str) (n : Nat) (fr : Bool) (φ : List D → Option D) : Prop := (∀ ds d, φ ds = some d → ds.length = n) ∧ ∃ f fd ps, ps.length = n ∧ X.mg g = some (.ref f) ∧ PySem.W.keepIn X.K (.ref f) = true ∧ Binds X.K fd ps [] ∧ FnOk X.prog X.w X.K X.mg X.base L2.CX0 k f fd ps (spG X.K n fr φ)
theorem scalar_rp {F F' : Hp} {d : D} {v : V} (h : scalar d = true) (r : Rp K F v d) : Rp K F' v d := by
  cases r with
  | non => exact .non
  | bl b => exact .bl b
  | int i => exact .int i
  | str x => exact .str x
  | lst _ _ => cases h
  | tup _ _ => cases h
  | dct _ _ => cases h
  | scr _ => cases h
theorem scalar_cont {d : D} (h : scalar d = true) : cont d = false := by cases d <;> first | rfl | cases h
section
variable {e : Expr} {es : List Expr} {pos p2 : Pos} {g : Str} {n k : Nat} {fr : Bool} {φ : List D → Option D} {fl : Env → Option (List D)} {m : M}
theorem post_of (hK : X.K = K) {F H F' H' : Hp} {σ : L2.St} {v : V} {d : D} {fr : Bool} (h : Post X.K (if fr then .own else .frz) H [] v d F' H') : Post K (if fr then .own else .frz) H σ v d F' H' := by
  subst hK
  cases fr with
  | true => exact h
  | false => exact h
theorem q_call (hK : X.K = K) (hr : Room k X.A) (hg : Gl X g) (hdb : (g == ("__debug__" : Str)) = false) (hst : starEach (e :: es) X.env = (false, eval e X.env) :: starEach es X.env) (hpl : (backTo pos (starEach es X.env)).any (·.1) = false)
    (hf : FnAt X k g n fr φ) (ha : PA X (e :: es) (tLF K F0 H0 Γ fl)) : PE X (.Call (.Name g p2) (e :: es) [] pos) (tE K F0 H0 Γ (if fr then .own else .frz) fun ρ => (fl ρ).bind φ) := by
  obtain ⟨hn, f, fd, ps, hps, hm, kp, hb, F⟩ := hf
  refine PE.mono (pe_call (CX := L2.CX0) (E := L2.E0) F hr hg hm kp hb .nil L2.pass0 ha hdb hst hpl) fun σ H Q ⟨Fz, ρ, d, R, e1, q⟩ => ?_
  simp only [Option.bind_eq_some_iff] at e1
  obtain ⟨ds, ed, ep⟩ := e1
  refine ⟨Fz, ρ, ds, R, ed, fun vs F1 H1 s1 w1 => ?_⟩
  show spG X.K n fr φ (vs ++ []) H1 Q L2.E0
  rw [List.append_nil]
  refine ⟨by rw [w1.length]; exact hn _ _ ep, F1, ds, d, s1.in_, hK ▸ w1, ep, fun v F2 H2 s2 p2 => q v F2 H2 (s1.trans s2) ?_⟩
  have p3 := post_of hK p2 (F := F1) (σ := σ)
  cases fr with
  | true => exact p3.back rfl s1.same
  | false => exact p3
theorem q_call0 (hK : X.K = K) (hr : Room k X.A) (hg : Gl X g) (hdb : (g == ("__debug__" : Str)) = false) (hf : FnAt X k g n fr φ) : PE X (.Call (.Name g p2) [] [] pos) (tE K F0 H0 Γ (if fr then .own else .frz) fun _ => φ []) := by
  obtain ⟨hn, f, fd, ps, hps, hm, kp, hb, F⟩ := hf
  refine PE.mono (pe_call0 (CX := L2.CX0) (E := L2.E0) F hr hg hm kp hb .nil L2.pass0 hdb) fun σ H Q ⟨Fz, ρ, d, R, ep, q⟩ => ?_
  show spG X.K n fr φ [] H Q L2.E0
  exact ⟨hn _ _ ep, Fz, [], d, R.in_, .nil, ep, fun v F2 H2 s2 p2 => q v F2 H2 s2 (post_of hK p2 (F := Fz))⟩
theorem q_callS (hK : X.K = K) (hr : Room k X.A) (hg : Gl X g) (hdb : (g == ("__debug__" : Str)) = false) (hst : starEach (e :: es) X.env = (false, eval e X.env) :: starEach es X.env) (hpl : (backTo pos (starEach es X.env)).any (·.1) = false)
    (hf : FnAt X k g n fr φ) (ha : PA X (e :: es) (tLV K F0 H0 Γ fl)) : PE X (.Call (.Name g p2) (e :: es) [] pos) (tE K F0 H0 Γ .frz fun ρ => (fl ρ).bind fun ds => (φ ds).bind fun d => gate (scalar d) d) := by
  obtain ⟨hn, f, fd, ps, hps, hm, kp, hb, F⟩ := hf
  refine PE.mono (pe_call (CX := L2.CX0) (E := L2.E0) F hr hg hm kp hb .nil L2.pass0 ha hdb hst hpl) fun σ H Q ⟨Fz, ρ, d, R, e1, q⟩ => ?_
  simp only [Option.bind_eq_some_iff] at e1
  obtain ⟨ds, ed, d2, ep, eg⟩ := e1
  obtain ⟨g1, rfl⟩ := gate_some eg
  refine ⟨Fz, ρ, ds, R, ed, fun vs F1 H1 s1 w1 => ?_⟩
  show spG X.K n fr φ (vs ++ []) H1 Q L2.E0
  rw [List.append_nil]
  have w2 := w1.rpH s1.in_
  refine ⟨by rw [w2.length]; exact hn _ _ ep, H1, ds, d2, .refl _, hK ▸ w2, ep, fun v F2 H2 s2 p2 => q v F1 H2 (s1.trans ⟨.refl _, s1.in_.trans s2.same, s2.same, fun _ _ z => .inl z⟩) ?_⟩
  have p3 := post_of hK p2 (F := F1) (σ := σ)
  cases fr with
  | true => exact scalar_rp g1 (p3.1.1 (scalar_cont g1))
  | false => exact scalar_rp g1 p3
end

section
variable {a b : Expr} {pos p2 : Pos} {x : Str} {fa fb : Env → Option D} {gd : D → Option D}
theorem tCB_rF (hK : X.K = K) {σ : L2.St} {H : Hp} {Q : VK} (h : tE K F0 H0 Γ .own (fun ρ => (fa ρ).bind gd) σ H Q) : tCB (rF X.K gd) (tCons (tV K F0 H0 Γ fa) tNil) σ H Q := by
  subst hK
  obtain ⟨F, ρ, d, R, e1, q⟩ := h
  simp only [Option.bind_eq_some_iff] at e1
  obtain ⟨y, ey, ed⟩ := e1
  exact ⟨F, ρ, y, R, ey, fun v F1 H1 s1 w1 => ⟨F1, v, y, d, rfl, s1.in_, w1, ed, fun z F2 H2 s2 p2 => q z F2 H2 (s1.trans s2) (p2.back rfl s1.same)⟩⟩
theorem q_biB {id : String} (hK : X.K = K) (hc : CallR X (.builtin id) (rF X.K gd)) (hg : Gl X x) (hm : X.mg x = none) (hv : bootBuiltins x = some (.builtin id)) (hn : x ≠ "__name__") (hdb : (x == ("__debug__" : Str)) = false)
    (hst : starEach [a] X.env = (false, eval a X.env) :: starEach [] X.env) (ha : PE X a (tV K F0 H0 Γ fa)) : PE X (.Call (.Name x p2) [a] [] pos) (tE K F0 H0 Γ .own fun ρ => (fa ρ).bind gd) :=
  PE.mono (pe_callB hc hg hm hv (pa_cons ha pa_nil hst) hn hdb hst rfl) fun σ H Q h => tCB_rF hK h
theorem q_biT {T : String} (hK : X.K = K) (hc : CallR X (.type T) (rF X.K gd)) (hg : Gl X x) (hm : X.mg x = none) (hv : bootBuiltins x = some (.type T)) (hn : x ≠ "__name__") (hdb : (x == ("__debug__" : Str)) = false)
    (hst : starEach [a] X.env = (false, eval a X.env) :: starEach [] X.env) (ha : PE X a (tV K F0 H0 Γ fa)) : PE X (.Call (.Name x p2) [a] [] pos) (tE K F0 H0 Γ .own fun ρ => (fa ρ).bind gd) :=
  PE.mono (pe_callTy hc hg hm hv (pa_cons ha pa_nil hst) hn hdb hst rfl) fun σ H Q h => tCB_rF hK h
theorem rgV_data {F : Hp} {i j : Int} : RpL K F (rgV i j) ((List.range (j - i).toNat).map fun k => PyData.int (i + (k : Nat))) := by
  unfold rgV
  generalize List.range (j - i).toNat = l
  induction l with
  | nil => exact .nil
  | cons k l ih => exact .cons (.int _) ih
theorem q_listRg1 {p3 pos3 : Pos} (hcalm : X.calm = true) (hgl : Gl X "list") (hml : X.mg "list" = none) (hg : Gl X "range") (hm : X.mg "range" = none) (hst : starEach [a] X.env = (false, eval a X.env) :: starEach [] X.env)
    (hst2 : starEach [Expr.Call (.Name "range" p3) [a] [] pos3] X.env = (false, eval (Expr.Call (.Name "range" p3) [a] [] pos3) X.env) :: starEach [] X.env) (ha : PE X a (tV K F0 H0 Γ fa)) :
    PE X (.Call (.Name "list" p2) [.Call (.Name "range" p3) [a] [] pos3] [] pos) (tE K F0 H0 Γ .own fun ρ => ((fa ρ).bind fun
      | .int j => (rngD 0 j).map PyData.list
      | _ => none).bind (biD .list)) :=
  PE.mono (pe_listRg hcalm hgl hml (prg_1 hg hm ha hst) hst2) fun σ H Q ⟨F, ρ, d, R, e1, q⟩ => by
    simp only [Option.bind_eq_some_iff] at e1
    obtain ⟨d1, ⟨y, ey, e2⟩, e3⟩ := e1
    refine ⟨F, ρ, y, R, ey, fun v F1 H1 s1 w1 => ?_⟩
    cases y with
    | int j =>
      simp only [Option.map_eq_some_iff] at e2
      obtain ⟨es, e5, rfl⟩ := e2
      cases e3
      obtain ⟨⟨b1, b2, b3, b4, b5⟩, e6⟩ := rng_some e5
      have := w1.int
      subst this
      refine ⟨j, rfl, ⟨by omega, by omega, by omega, by omega, by omega⟩, fun p hp => ?_⟩
      obtain ⟨s2, p2⟩ := post_list (K := K) (σ := σ) s1.in_ hp (rgV_data (i := 0) (j := j))
      rw [← e6] at p2
      exact q _ _ _ (s1.trans s2) (p2.back rfl s1.same)
    | _ => cases e2
theorem q_listRg2 {p3 pos3 : Pos} (hcalm : X.calm = true) (hgl : Gl X "list") (hml : X.mg "list" = none) (hg : Gl X "range") (hm : X.mg "range" = none) (hst : starEach [a, b] X.env = (false, eval a X.env) :: starEach [b] X.env) (hstb : starEach [b] X.env = (false, eval b X.env) :: starEach [] X.env)
    (hpl : (backTo pos3 (starEach [b] X.env)).any (·.1) = false)
    (hst2 : starEach [Expr.Call (.Name "range" p3) [a, b] [] pos3] X.env = (false, eval (Expr.Call (.Name "range" p3) [a, b] [] pos3) X.env) :: starEach [] X.env) (ha : PE X a (tV K F0 H0 Γ fa)) (hb : PE X b (tV K F0 H0 Γ fb)) :
    PE X (.Call (.Name "list" p2) [.Call (.Name "range" p3) [a, b] [] pos3] [] pos) (tE K F0 H0 Γ .own fun ρ => ((fa ρ).bind fun
      | .int i => (fb ρ).bind fun
        | .int j => (rngD i j).map PyData.list
        | _ => none
      | _ => none).bind (biD .list)) :=
  PE.mono (pe_listRg hcalm hgl hml (prg_2 hg hm ha hb hst hstb hpl) hst2) fun σ H Q ⟨F, ρ, d, R, e1, q⟩ => by
    simp only [Option.bind_eq_some_iff] at e1
    obtain ⟨d1, ⟨y, ey, e2⟩, e3⟩ := e1
    refine ⟨F, ρ, y, R, ey, fun v F1 H1 s1 w1 => ?_⟩
    cases y with
    | int i =>
      simp only [Option.bind_eq_some_iff] at e2
      obtain ⟨z, ez, e2⟩ := e2
      refine ⟨F1, ρ, z, R.step s1, ez, fun u F2 H2 s2 w2 => ?_⟩
      cases z with
      | int j =>
        simp only [Option.map_eq_some_iff] at e2
        obtain ⟨es, e5, rfl⟩ := e2
        cases e3
        obtain ⟨⟨b1, b2, b3, b4, b5⟩, e6⟩ := rng_some e5
        have := w1.int
        subst this
        have := w2.int
        subst this
        refine ⟨i, j, rfl, rfl, ⟨by omega, by omega, by omega, by omega, by omega⟩, fun p hp => ?_⟩
        obtain ⟨s3, p3⟩ := post_list (K := K) (σ := σ) s2.in_ hp (rgV_data (i := i) (j := j))
        rw [← e6] at p3
        exact q _ _ _ (s1.trans (s2.trans s3)) (p3.back rfl (s1.same.trans s2.same))
      | _ => cases e2
    | _ => cases e2
theorem q_tyName {t : Ty} (hg : Gl X (Str.ofString (tyN t))) (hm : X.mg (Str.ofString (tyN t)) = none) : PE X (.Name (Str.ofString (tyN t)) p2) (tC (.ty (tyN t))) := by
  refine pe_bltn (u := .type (tyN t)) hg hm ?_ rfl ?_ ?_
  · cases t <;> decide +kernel
  · cases t <;> decide +kernel
  · cases t <;> decide +kernel
theorem q_is1 {t : Ty} {p3 : Pos} (hK : X.K = K) (hgi : Gl X "isinstance") (hmi : X.mg "isinstance" = none) (hg : Gl X (Str.ofString (tyN t))) (hm : X.mg (Str.ofString (tyN t)) = none)
    (hst : starEach [a, Expr.Name (Str.ofString (tyN t)) p3] X.env = (false, eval a X.env) :: starEach [Expr.Name (Str.ofString (tyN t)) p3] X.env) (ha : PE X a (tV K F0 H0 Γ fa)) :
    PE X (.Call (.Name "isinstance" p2) [a, .Name (Str.ofString (tyN t)) p3] [] pos) (tE K F0 H0 Γ .frz fun ρ => (fa ρ).bind fun d => match d with
      | .dict _ => none
      | d => some (.bool ([t].any (isTy d)))) := by
  subst hK
  refine PE.mono (pe_callB (fn_is1 t) hgi hmi (by decide +kernel) (pa_cons ha (pa_cons (q_tyName hg hm) pa_nil rfl) hst) (by decide) (by decide) hst rfl) fun σ H Q ⟨F, ρ, d, R, e1, q⟩ => ?_
  simp only [Option.bind_eq_some_iff] at e1
  obtain ⟨y, ey, e2⟩ := e1
  refine ⟨F, ρ, y, R, ey, fun v F1 H1 s1 w1 => ⟨F1, v, y, rfl, s1.in_, w1, ?_, ?_⟩⟩
  · cases y <;> first | rfl | cases e2
  · have e3 : d = .bool (isTy y t) := by cases y <;> first | (cases e2; done) | (simpa using e2.symm)
    exact q _ F1 H1 s1 (by rw [e3]; exact .bl _)
theorem q_tyNames {ts : List Ty} {es : List Expr} (h : ∀ t ∈ ts, Gl X (Str.ofString (tyN t)) ∧ X.mg (Str.ofString (tyN t)) = none) (he : Paired (fun (t : Ty) e => ∃ p, e = Expr.Name (Str.ofString (tyN t)) p) ts es) :
    PA X es fun _ H Q => Q (ts.map fun t => V.ty (tyN t)) H := by
  induction he with
  | nil => exact PA.mono pa_nil fun _ _ _ h => h
  | cons r _ ih =>
    obtain ⟨p, rfl⟩ := r
    obtain ⟨h1, h2⟩ := h _ List.mem_cons_self
    exact PA.mono (pa_cons (q_tyName h1 h2) (ih fun t ht => h t (by simp [ht])) rfl) fun _ _ _ h => h
theorem q_isN' {ts : List Ty} {es : List Expr} {k : Nat} {p3 : Pos} (hK : X.K = K) (hgi : Gl X "isinstance") (hmi : X.mg "isinstance" = none) (h : ∀ t ∈ ts, Gl X (Str.ofString (tyN t)) ∧ X.mg (Str.ofString (tyN t)) = none)
    (he : Paired (fun (t : Ty) e => ∃ p, e = Expr.Name (Str.ofString (tyN t)) p) ts es) (hl : ts.length ≤ 1000)
    (hst : starEach [a, Expr.Tuple es k p3] X.env = (false, eval a X.env) :: starEach [Expr.Tuple es k p3] X.env) (ha : PE X a (tV K F0 H0 Γ fa)) :
    PE X (.Call (.Name "isinstance" p2) [a, .Tuple es k p3] [] pos) (tE K F0 H0 Γ .frz fun ρ => (fa ρ).bind fun d => match d with
      | .dict _ => none
      | d => some (.bool (ts.any (isTy d)))) := by
  subst hK
  refine PE.mono (pe_callB (fn_isN ts) hgi hmi (by decide +kernel) (pa_cons ha (pa_cons (pe_tup (q_tyNames h he)) pa_nil rfl) hst) (by decide) (by decide) hst rfl) fun σ H Q ⟨F, ρ, d, R, e1, q⟩ => ?_
  simp only [Option.bind_eq_some_iff] at e1
  obtain ⟨y, ey, e2⟩ := e1
  refine ⟨F, ρ, y, R, ey, fun v F1 H1 s1 w1 => ⟨by rw [List.length_map, sl_eq]; exact Nat.le_trans hl (by decide), fun p hp => ?_⟩⟩
  have su : Same H1 (upd H1 p (.tup (ts.map fun t => V.ty (tyN t)))) := same_upd' hp
  have s2 : Step F1 H1 F1 (upd H1 p (.tup (ts.map fun t => V.ty (tyN t)))) := ⟨.refl _, s1.in_.trans su, su, fun _ _ z => .inl z⟩
  refine ⟨F1, v, y, p, rfl, upd_same, s2.in_, w1.mono s2, ?_, ?_⟩
  · cases y <;> first | rfl | cases e2
  · have e3 : d = .bool (ts.any (isTy y)) := by cases y <;> first | (cases e2; done) | (simpa using e2.symm)
    exact q _ F1 _ (s1.trans s2) (by rw [e3]; exact .bl _)
theorem q_index {apos : Pos} (hK : X.K = K) (hu : X.A.units + 65 < cLine) (hbase : attributeBase a "index" X.env (eval a X.env) = eval a X.env) (hline : (apos.endLine == pos.line) = true)
    (hst : starEach [b] X.env = (false, eval b X.env) :: starEach [] X.env) (ha : PE X a (tV K F0 H0 Γ fa)) (hb : PE X b (tV K F0 H0 Γ fb)) :
    PE X (.Call (.Attribute a "index" apos) [b] [] pos) (tE K F0 H0 Γ .frz fun ρ => (fa ρ).bind fun x => (fb ρ).bind fun y => match x with
      | .list xs => indexD xs y
      | _ => none) := by
  subst hK
  refine PE.mono (pe_bm PySem.F.plainAttrs_list PySem.F.slot_list_index PySem.F.type_list_index (mt_index hu) ha (pa_cons hb pa_nil hst) hbase (by rw [hst]; rfl) hline hst rfl) fun σ H Q ⟨F, ρ, d, R, e1, q⟩ => ?_
  simp only [Option.bind_eq_some_iff] at e1
  obtain ⟨x, ex, y, ey, ed⟩ := e1
  refine ⟨F, ρ, x, R, ex, fun v F1 H1 s1 w1 => ?_⟩
  cases x with
  | list xs =>
    obtain ⟨c, vs, rfl, hc, rc⟩ := w1.list s1.in_
    refine ⟨.inl ⟨rfl, vs, .inl (.inl hc)⟩, F1, ρ, y, R.step s1, ey, fun u F2 H2 s2 w2 => ⟨F2, u, xs, y, d, rfl, s2.in_, .mono s2 w1, w2, ed, fun z F3 H3 s3 p3 => q z F3 H3 (s1.trans (s2.trans s3)) ?_⟩⟩
    have hc2 : cont d = false := by
      have ed : indexD xs y = some d := ed
      unfold indexD at ed
      split at ed
      · simp only [Option.map_eq_some_iff] at ed
        obtain ⟨j, _, rfl⟩ := ed
        rfl
      · cases ed
    exact p3.1.1 hc2
  | _ => cases ed
end
end Q
set_option autoImplicit false
set_option linter.all false
set_option maxRecDepth 100000
set_option maxHeartbeats 8000000
namespace Q
open PySem PySem.Spec PyProof.Rows L2
theorem and_t {a b : Bool} (h : (a && b) = true) : a = true ∧ b = true := Bool.and_eq_true_iff.mp h
theorem not_t {a : Bool} (h : (!a) = true) : a = false := by simpa using h
theorem dec_t {p : Prop} [Decidable p] (h : decide p = true) : p := of_decide_eq_true h
theorem some_of {α : Type} {o : Option α} (h : o.isSome = true) : ∃ x, o = some x := Option.isSome_iff_exists.mp h
section
variable {P : Program} {w : World} {A : Around} {E : Value → Shared → Prop} {s : Shared}
abbrev newSet (w : World) : Obj := { cls := .type "set", dict := none, data := .set #[] 0 (.fresh 0 0 (!w.params.followText "set-order")) }
theorem set_loop {I : Addr} {fp wr : List Addr} {G : Array GenState → Array GenState → Prop} {n : Nat} {Pv : Nat → Value → Prop} {St : Nat → Shared → Prop} {R : Result → Shared → Prop}
    (Wk : WalksS P w A.in1 I fp wr G n Pv St) (S : Addr) (hSf : S ∉ fp) (Pd : Nat → Heap → Prop) (pat : ∀ i g g', Pd i g → (∀ o, g.get? S = some o → g'.get? S = some o) → Pd i g')
    (g0 : Heap) (gS : g0.get? S = none) (gw : ∀ b ∈ wr, g0.get? b = none)
    (step : ∀ (i : Nat) (v : Value) (z : Shared) (Q : Bool → Shared → Prop) (X : Value → Shared → Prop), i < n → Pv i v → Pd i z.heap → (∀ b o, g0.get? b = some o → z.heap.get? b = some o) →
      (∀ c g' tk, Heap.SameBut S z.heap g' → z.toks ≤ tk → Pd (i + 1) g' → Q c { z with heap := g', toks := tk }) → wpAny (model P w) A.in1 (setAdd S v) Q X z) :
    ∀ (k i : Nat) (z : Shared), n - i = k → i ≤ n → St i z → (∀ b o, g0.get? b = some o → z.heap.get? b = some o) → Pd i z.heap →
      (∀ z', Moved (S :: wr) G z z' → Pd n z'.heap → (∀ b o, g0.get? b = some o → z'.heap.get? b = some o) → R (.ok (.ret .none)) z') →
      codeAny (model P w) A (.builtin "set.update.loop" ⟨[.ref S, .ref I], []⟩) R z := by
  have nS : S ∉ wr := fun h => hSf (Wk.sub _ h)
  have sub : ∀ b ∈ wr, b ∈ S :: wr := fun b hb => List.mem_cons_of_mem _ hb
  have kM : ∀ {z z' : Shared}, Moved wr G z z' → (∀ b o, g0.get? b = some o → z.heap.get? b = some o) → ∀ b o, g0.get? b = some o → z'.heap.get? b = some o := fun hm hk b o e =>
    hm.heap b o (fun hb => nomatch (gw b hb).symm.trans e) (hk b o e)
  intro k
  induction k with
  | zero =>
    intro i z hi1 hi2 st kp pd hR
    have hin : i = n := by omega
    subst hin
    refine codeAny_builtin F.entry_set_update_loop ?_
    rw [Around.under_plainId F.plain_set_update_loop _]
    show wpAny _ A.in1 (pyNext (.ref I) >>= _) _ _ z
    refine wpAny_bind (Wk.done z _ _ st fun z' hm => ?_)
    exact (show wpAny _ A.in1 (ret Value.none) _ _ z' from wpAny_pure (hR z' (hm.mono sub) (pat _ _ _ pd fun o e => hm.heap S o nS e) (kM hm kp)))
  | succ k ih =>
    intro i z hi1 hi2 st kp pd hR
    have hlt : i < n := by omega
    refine codeAny_builtin F.entry_set_update_loop ?_
    rw [Around.under_plainId F.plain_set_update_loop _]
    show wpAny _ A.in1 (pyNext (.ref I) >>= _) _ _ z
    refine wpAny_bind (Wk.item i z _ _ hlt st fun v z1 hP st1 hm => ?_)
    have kp1 := kM hm kp
    show wpAny _ A.in1 (holding [v] (setAdd S v) >>= _) _ _ z1
    refine wpAny_bind (wpAny_holding (step i v z1 _ _ hlt hP (pat _ _ _ pd fun o e => hm.heap S o nS e) kp1 fun c g' tk sb htk pd1 => ?_))
    have kp2 : ∀ b o, g0.get? b = some o → g'.get? b = some o := fun b o e => (sb.2 b (fun y => by rw [y, gS] at e; cases e)).trans (kp1 b o e)
    refine wpAny_pure ⟨plainId_quiet F.plain_set_update_loop _, ih (i + 1) _ (by omega) hlt (Wk.frame _ z1 _ _ st1 htk fun b hb o e => ?_) kp2 pd1 fun z2 hm2 pd2 kp3 => ?_⟩
    · exact (sb.2 b (fun y : b = S => hSf (y ▸ hb))).trans e
    · refine hR z2 (Moved.trans Wk.gtrans ((hm.mono sub).then_heap htk fun b o hb e => ?_) hm2) pd2 kp3
      exact (sb.2 b (fun y : b = S => hb (y ▸ List.mem_cons_self))).trans e
set_option maxHeartbeats 3200000 in
theorem set_of_list {l : Addr} {items : Array Value} (Pd : Nat → Heap → Prop) (pat : ∀ i g g', Pd i g → (∀ o, g.get? s.heap.objs.size = some o → g'.get? s.heap.objs.size = some o) → Pd i g') {Q : Value → Shared → Prop} (hh : A.handled = none) (hl : s.heap.IsList l items)
    (pd0 : ∀ g, g.get? s.heap.objs.size = some (newSet w) → Pd 0 g)
    (step : ∀ (i : Nat) (v : Value) (z : Shared) (Q : Bool → Shared → Prop) (X : Value → Shared → Prop), i < items.size → items[i]? = some v → Pd i z.heap → (∀ b o, s.heap.get? b = some o → z.heap.get? b = some o) →
      (∀ c g' tk, Heap.SameBut s.heap.objs.size z.heap g' → z.toks ≤ tk → Pd (i + 1) g' → Q c { z with heap := g', toks := tk }) → wpAny (model P w) A.in1.in1.in1 (setAdd s.heap.objs.size v) Q X z)
    (hq : ∀ (g : Heap) (tk : Nat), Pd items.size g → (∀ b o, s.heap.get? b = some o → g.get? b = some o) → Q (.ref s.heap.objs.size) { s with heap := g, toks := tk }) :
    wpAny (model P w) A (call (.type "set") [.ref l]) Q E s := by
  obtain ⟨c0, tl0, hmro⟩ := F.called_set.mro
  have hmade := F.called_set.made
  have hsub := F.called_set.sub
  refine wpAny_call (codeAny_of_tree ?_)
  show wpAny _ _ (callAny (.type "set") _) _ _ _
  refine wpAny_pure ⟨Code.quiet_builtin _ (by decide +kernel), codeAny_builtin F.entry_type_call ?_⟩
  rw [Around.under_plain (weight_type_call_type "set" [.ref l] []) rfl]
  have h1 := F.called_set.notType
  have h2 := F.called_set.canCreate
  have hct := F.typeCall_set_1 (.ref l)
  repeat (any_goals (first | assumption | wp_step))

  refine codeAny_mono (code_set_led1 (.ref l) (E := E) (Q₁ := fun y z => y = .ref s.heap.objs.size ∧ z = { s with heap := s.heap.push (newSet w) }) ⟨rfl, rfl⟩) fun r z1 hr => ?_
  cases r with
  | error e => exact hr
  | ok fl =>
    cases fl with
    | ret y =>
      obtain ⟨rfl, rfl⟩ := hr
      have hS : (s.heap.push (newSet w)).get? s.heap.objs.size = some (newSet w) := Heap.get?_push_size _ rfl
      have hT : Shared.TypeIs { s with heap := s.heap.push (newSet w) } (.ref s.heap.objs.size) "set" := ⟨_, hS, rfl⟩
      have hli := F.called_set.init.lookup
      have hbi := F.called_set.init.bind (.ref s.heap.objs.size)
      repeat (any_goals (first | assumption | wp_step))

      refine codeAny_mono (codeAny_call_builtin (R := wants (fun r z2 => r = .none ∧ ∃ g tk, z2 = { s with heap := g, toks := tk } ∧ Pd items.size g ∧ (∀ b o, s.heap.get? b = some o → g.get? b = some o)) E) F.called_set.init.plain F.entry_set_init (check_set_init_1 hT ?_)) fun r2 z2 hr2 => ?_
      · obtain ⟨ol, hol, hcl, nl, hdl⟩ := hl
        obtain ⟨ocls, odict, odata, oslots⟩ := ol
        simp only at hcl hdl
        subst hcl; subst hdl
        have hol2 : (s.heap.push (newSet w)).get? l = some { cls := .type "list", dict := odict, data := .seq items nl, slots := oslots } := Heap.get?_push_of_some _ hol
        have hsls := F.sub_list_set
        have hslf := F.sub_list_frozenset
        have hne : (Value.type "list" == Value.type "dict") = false := by decide
        have hl1 : (s.heap.push (newSet w)).IsList l items := ⟨_, hol2, rfl, nl, rfl⟩
        unfold Builtin.«set.__init__» noKeywords Builtin.Frozenset.updateFrom
        generalize hPI : pyIter = PI
        wp_walk
        subst hPI

        refine wpAny_pyIter_list hl1 ?_
        refine wpAny_bind (wpAny_runValue ?_)
        have hlS : l < s.heap.objs.size := Heap.lt_size hol
        have hh3 : A.in1.in1.in1.handled = none := by simp [hh]
        have sz1 : (s.heap.push (newSet w)).objs.size = s.heap.objs.size + 1 := Heap.size_push ..
        have hneI : l ≠ (s.heap.push (newSet w)).objs.size := by
          rw [sz1]; exact Nat.ne_of_lt (Nat.lt_succ_of_lt hlS)
        have hSf : s.heap.objs.size ∉ [(s.heap.push (newSet w)).objs.size, l] := by
          rw [sz1]; simp only [List.mem_cons, List.not_mem_nil, or_false, not_or]
          exact ⟨Nat.ne_of_lt (Nat.lt_succ_self _), Nat.ne_of_gt hlS⟩
        have none_of : ∀ b, s.heap.objs.size ≤ b → s.heap.get? b = none := fun b hb => by
          cases q : s.heap.get? b with
          | none => rfl
          | some o => exact absurd (Nat.lt_of_lt_of_le (Heap.lt_size q) hb) (Nat.lt_irrefl _)
        refine set_loop ((Walks.list hh3 _ l hneI items).toS) s.heap.objs.size hSf Pd pat s.heap (none_of _ (Nat.le_refl _)) (fun b hb => none_of b (by
            rw [List.mem_singleton.mp hb, sz1]; exact Nat.le_succ _)) (fun i v z Q' X hi hv pd kp k => step i v z Q' X hi hv pd kp k) (items.size - 0) 0 _ (by omega) (Nat.zero_le _)
          ⟨⟨_, Heap.get?_push_size _ rfl, rfl, rfl⟩, (hl1.push _)⟩ (fun b o e => Heap.get?_push_of_some _ (Heap.get?_push_of_some _ e)) (pd0 _ (Heap.get?_push_of_some _ hS)) ?hR
        intro z' hm pd kp
        obtain ⟨g, g2, d', tk', os'⟩ := z'
        have eg : g2 = s.gens := hm.gens
        have ed : d' = s.drawn := hm.drawn
        have eo : os' = s.os := hm.os
        subst eg; subst ed; subst eo
        show wpAny _ _ _ _ _ _
        refine wpAny_pure ?_
        exact (show wpAny _ _ (ret Value.none) _ _ _ from wpAny_pure ⟨rfl, g, tk', rfl, pd, kp⟩)

      · cases r2 with
        | error e => exact hr2
        | ok fl2 =>
          cases fl2 with
          | ret r =>
            obtain ⟨rfl, g, tk, rfl, pd, kp⟩ := hr2
            repeat (any_goals (first | assumption | wp_step))
            exact hq _ _ pd kp
          | _ => exact hr2.elim
    | _ => exact hr.elim
end
end Q
set_option autoImplicit false
set_option linter.all false
set_option maxRecDepth 100000
set_option maxHeartbeats 8000000
namespace Q
open PySem PySem.Spec PyProof.Rows L2
theorem uins_mem {i k : Int} : ∀ {l : List Int}, k ∈ uins i l ↔ k = i ∨ k ∈ l
  | [] => by simp [uins]
  | a :: r => by
    unfold uins
    split
    · simp
    · split
      · rename_i h; subst h; simp
      · simp only [List.mem_cons, uins_mem (l := r)]
        constructor
        · rintro (h | h | h) <;> simp [h]
        · rintro (h | h | h) <;> simp [h]
theorem uins_ord {i : Int} : ∀ {l : List Int}, l.Pairwise (· < ·) → (uins i l).Pairwise (· < ·)
  | [], _ => by simp [uins]
  | a :: r, h => by
    obtain ⟨h1, h2⟩ := List.pairwise_cons.mp h
    unfold uins
    split
    · rename_i c
      refine List.pairwise_cons.mpr ⟨fun y hy => ?_, h⟩
      rcases List.mem_cons.mp hy with e | e
      · subst e; exact c
      · exact Int.lt_trans c (h1 y e)
    · split
      · exact h
      · refine List.pairwise_cons.mpr ⟨fun y hy => ?_, uins_ord h2⟩
        rcases uins_mem.mp hy with e | e
        · subst e; omega
        · exact h1 y e
theorem usort_mem {k : Int} : ∀ {l : List Int}, k ∈ usort l ↔ k ∈ l
  | [] => by simp [usort]
  | a :: r => by
    show k ∈ uins a (usort r) ↔ _
    rw [uins_mem, usort_mem (l := r), List.mem_cons]
theorem usort_ord : ∀ {l : List Int}, (usort l).Pairwise (· < ·)
  | [] => List.Pairwise.nil
  | a :: r => uins_ord (usort_ord (l := r))
theorem ord_eq : ∀ {l m : List Int}, l.Pairwise (· < ·) → m.Pairwise (· < ·) → (∀ k, k ∈ l ↔ k ∈ m) → l = m
  | [], [], _, _, _ => rfl
  | [], b :: m, _, _, h => by have := (h b).mpr (by simp); simp at this
  | a :: l, [], _, _, h => by have := (h a).mp (by simp); simp at this
  | a :: l, b :: m, h1, h2, h => by
    obtain ⟨p1, p2⟩ := List.pairwise_cons.mp h1
    obtain ⟨q1, q2⟩ := List.pairwise_cons.mp h2
    have e : a = b := by
      rcases List.mem_cons.mp ((h a).mp (by simp)) with e | e
      · exact e
      · rcases List.mem_cons.mp ((h b).mpr (by simp)) with e2 | e2
        · exact e2.symm
        · have := p1 b e2; have := q1 a e; omega
    subst e
    rw [ord_eq p2 q2 fun k => ?_]
    constructor
    · intro hk
      rcases List.mem_cons.mp ((h k).mp (by simp [hk])) with e | e
      · subst e; have := p1 k hk; omega
      · exact e
    · intro hk
      rcases List.mem_cons.mp ((h k).mpr (by simp [hk])) with e | e
      · subst e; have := q1 k hk; omega
      · exact e
section
variable {P : Program} {w : World} {A : Around} {E : Value → Shared → Prop} {s : Shared}
theorem set_ints {l : Addr} {items : Array Value} {ns : List Int} {Q : Value → Shared → Prop} (hh : A.handled = none) (hl : s.heap.IsList l items) (hi : IntsAre items.toList ns) (hb : ns.length + 1 < scanBound)
    (hq : ∀ (g : Heap) (tk c : Nat), SetR w g s.heap.objs.size (fun j => decide (j ∈ ns)) c → c ≤ ns.length → (∀ b o, s.heap.get? b = some o → g.get? b = some o) → Q (.ref s.heap.objs.size) { s with heap := g, toks := tk }) :
    wpAny (model P w) A (call (.type "set") [.ref l]) Q E s := by
  have sz : items.size = ns.length := by
    have q := IntsAre.length hi
    rwa [Array.length_toList] at q
  refine set_of_list (fun i g => ∃ c, c ≤ i ∧ SetR w g s.heap.objs.size (fun j => decide (j ∈ ns.take i)) c) (fun i g g' ⟨c, h1, h2⟩ k => ⟨c, h1, h2.at k⟩) hh hl (fun g e => ⟨0, Nat.le_refl _, setR_new_at e⟩) (fun i v z Q X hlt hv ⟨c, hc, R⟩ kp k => ?_) fun g tk ⟨c, hc, R⟩ kp => ?_
  · have hn : i < ns.length := by omega
    obtain ⟨t, e⟩ := PyProof.Rows.IntsAre.int_at hi i v (by rw [Array.getElem?_toList]; exact hv)
    have hz : ns[i]? = some ns[i] := List.getElem?_eq_getElem hn
    rw [List.getD_eq_getElem?_getD, hz] at e
    have e : v = .int ns[i] t := e
    subst e
    unfold setAdd
    refine wpAny_holding (wpAny_bind ((intKind P w).pyHash (k := ns[i]) (intKind_is _ _ _ _) ?_))
    refine setR_add_hashed (s := { z with toks := z.toks + 1 }) R (by omega) fun g' sb R2 => k _ g' _ sb (Nat.le_succ _) ⟨_, ?_, R2.congr fun j => ?_⟩
    · split <;> omega
    · rw [List.take_add_one, hz]
      simp only [List.mem_append, Option.toList_some, List.mem_singleton, Bool.decide_or]
  · rw [sz, List.take_length] at R
    exact hq g tk c R (by omega) kp

theorem hashBy_key : ∀ (n : Nat) (k : NestedKey) (v : Value) (z : Shared) {B : Around} {X : Value → Shared → Prop} (Q : Bool → Shared → Prop), NestedIs z.heap k v → (∀ r, Q r z) → wpAny (model P w) B (hashByValue n v) Q X z := by
  intro n
  induction n with
  | zero =>
    intro k v z B X Q x h
    cases x <;> exact wpAny_pure (h _)
  | succ n ih =>
    intro k v z B X Q x h
    cases x with
    | @tup a o vs m ks hg hc hd hk =>
      unfold hashByValue
      refine wpAny_bind (wpAny_specialOf (T := "tuple") ⟨_, hg, hc⟩ F.slot_tuple_hash.lookup ?_)
      show wpAny _ _ (seqItems? (.ref a) >>= _) _ _ z
      refine wpAny_bind (wpAny_seqItems hg hd ?_)
      refine wpAny_bind ?_
      show wpAny _ _ (forIn vs _ _) _ _ z
      rw [← Array.forIn_toList]
      have each : ∀ {ks : List NestedKey} {vs : List Value}, NestedAll z.heap ks vs → ∀ v ∈ vs, ∃ k, NestedIs z.heap k v := by
        intro ks vs x
        induction vs generalizing ks with
        | nil => intro v hv; cases hv
        | cons u us ihu =>
          intro v hv
          cases x with
          | cons x1 x2 =>
            rcases List.mem_cons.mp hv with e | e
            · subst e; exact ⟨_, x1⟩
            · exact ihu x2 v e
      refine wpAny_forIn_list _ (fun rest r y => r.1 = none ∧ y = z ∧ ∀ v ∈ rest, ∃ k, NestedIs z.heap k v) _ ?_ ?_ _ _ ⟨rfl, rfl, each hk⟩
      · rintro v rest r y ⟨hr, rfl, hall⟩
        obtain ⟨k1, x1⟩ := hall v List.mem_cons_self
        refine wpAny_bind (ih k1 v y _ x1 fun c => ?_)
        cases c with
        | false =>
          simp only [Bool.not_false, if_true]
          refine wpAny_pure ?_
          exact wpAny_pure (h _)
        | true =>
          simp only [Bool.not_true, Bool.false_eq_true, if_false]
          exact wpAny_pure ⟨rfl, rfl, fun u hu => hall u (List.mem_cons_of_mem _ hu)⟩
      · rintro ⟨r1, r2⟩ y ⟨hr, rfl, _⟩
        simp only at hr
        subst hr
        exact wpAny_pure (h _)
    | none => exact wpAny_pure (h _)
    | bool _ => exact wpAny_pure (h _)
    | int _ _ => exact wpAny_pure (h _)
    | text _ _ => exact wpAny_pure (h _)
end
end Q
set_option autoImplicit false
set_option linter.all false
set_option maxRecDepth 100000
set_option maxHeartbeats 8000000
namespace Q
open PySem PySem.Spec PyProof.Rows L2
section
variable {P : Program} {w : World} {A : Around} {E : Value → Shared → Prop} {s : Shared}
def OneSet (w : World) (g : Heap) (S : Addr) (x : Value) : Prop := ∃ (c : Int) (ep : Nat) (t : SetTable), g.get? S = some { cls := .type "set", dict := none, data := .set #[(c, x)] ep t } ∧ t.fits 1 = true ∧ Ris t.place.toList ∧ (w.params.followText "set-order" = true ∨ t.led = true)
theorem put_fresh (b : Bool) (j : Nat) (hj : j ≤ 7) : ((SetTable.fresh 0 0 b).put j).2 = 0 ∧ ((SetTable.fresh 0 0 b).put j).1 = { SetTable.fresh 0 0 b with place := #[j] } := ⟨rfl, rfl⟩
theorem one_fits (b p : Bool) (j : Nat) (hj : j ≤ 7) : ({ SetTable.fresh 0 0 b with place := #[j], plain := p } : SetTable).fits 1 = true := by
  have : j = 0 ∨ j = 1 ∨ j = 2 ∨ j = 3 ∨ j = 4 ∨ j = 5 ∨ j = 6 ∨ j = 7 := by omega
  rcases this with e | e | e | e | e | e | e | e <;> subst e <;> cases b <;> cases p <;> decide +kernel
theorem add_fresh {S x : Addr} {k : NestedKey} {c : Int} {z : Shared} {Q : Bool → Shared → Prop} (ho : z.heap.get? S = some (newSet w)) (hk : NestedIs z.heap k (.ref x))
    (hq : ∀ b g, Heap.SameBut S z.heap g → OneSet w g S (.ref x) → Q b { z with heap := g }) : wpAny (model P w) A (setAddHashed S (.ref x) c) Q E z := by
  have hf : (SetTable.fresh 0 0 (!w.params.followText "set-order")).fits (#[] : Array (Int × Value)).size = true := by
    cases w.params.followText "set-order" <;> decide +kernel
  unfold setAddHashed
  refine wpAny_holding ?_
  rw [show (100000 : Nat) = 99999 + 1 from rfl, setAddHashedIn_succ]
  refine wpAny_bind (wpAny_setState_of ho rfl hf ?_)
  dsimp only
  refine wp_if_neg (by simp [byScan, Value.scannable]) ?_
  have hj : SetTable.bits c % 8 ≤ 7 := by omega
  refine wpAny_bind ?_
  unfold setSearch
  rw [show (100000 : Nat) = 99999 + 1 from rfl, setSearchFrom_succ]
  refine wpAny_bind (wpAny_setState_of ho rfl hf ?_)
  dsimp only
  refine wp_if_neg (by cases w.params.followText "set-order" <;> decide +kernel) ?_
  have hp : (SetTable.fresh 0 0 (!w.params.followText "set-order")).probe (fun i => (((#[] : Array (Int × Value))[i]?).map (·.1)).getD 0) c ((none : Option SetTable.Probe).getD ((SetTable.fresh 0 0 (!w.params.followText "set-order")).probeStart c)) = some (.empty (SetTable.bits c % 8) none) := rfl
  rw [hp]
  dsimp only
  refine wpAny_pure ?_
  dsimp only
  refine wpAny_bind (wpAny_setState_of ho rfl hf ?_)
  dsimp only
  obtain ⟨p1, p2⟩ := put_fresh (!w.params.followText "set-order") _ hj
  generalize (SetTable.fresh 0 0 (!w.params.followText "set-order")).put (SetTable.bits c % 8) = pt at p1 p2 ⊢
  obtain ⟨t1, p⟩ := pt
  dsimp only at p1 p2 ⊢
  subst p1
  have fin : ∀ r : Bool, wpAny (model P w) A (do
      storeSet S (SetTable.insertAt (#[] : Array (Int × Value)) 0 (c, Value.ref x)) (if r then t1 else { t1 with plain := false })
      if !false && (if r then t1 else { t1 with plain := false }).tooFull then setRelay S (SetTable.grown ((#[] : Array (Int × Value)).size + 1))
      return true) Q E z := fun r => by
    have e1 : ∃ pl : Bool, (if r = true then t1 else { t1 with plain := false }) = { SetTable.fresh 0 0 (!w.params.followText "set-order") with place := #[SetTable.bits c % 8], plain := pl } := by
      subst p2
      cases r
      · exact ⟨false, rfl⟩
      · exact ⟨true, rfl⟩
    obtain ⟨pl, e1⟩ := e1
    rw [e1]
    refine wpAny_bind (wpAny_storeSet_of ho rfl ?_ (by show (1 : Nat) ≤ sizeLine; decide))
    have sb : Heap.SameBut S z.heap (z.heap.update S (Obj.putSet (SetTable.insertAt (#[] : Array (Int × Value)) 0 (c, Value.ref x)) { SetTable.fresh 0 0 (!w.params.followText "set-order") with place := #[SetTable.bits c % 8], plain := pl })) := Heap.SameBut.update ..
    have o1 := store_at (es' := SetTable.insertAt (#[] : Array (Int × Value)) 0 (c, Value.ref x)) (t' := { SetTable.fresh 0 0 (!w.params.followText "set-order") with place := #[SetTable.bits c % 8], plain := pl }) ho rfl
    refine wp_if_neg (by simp [SetTable.tooFull, SetTable.fill, SetTable.fresh]) ?_
    refine wpAny_pure (hq _ _ sb ⟨c, 1, _, o1, one_fits _ _ _ hj, List.pairwise_singleton _ _, ?_⟩)
    show _ ∨ (!w.params.followText "set-order") = true
    cases w.params.followText "set-order"
    · exact .inr rfl
    · exact .inl rfl
  have hpl : t1.plain = true := by rw [p2]; rfl
  refine wp_if_pos hpl (wpAny_bind (hashBy_key 8 k _ _ _ hk fun r => ?_))
  have fr := fin r
  cases r
  · exact fr
  · exact fr
theorem set_one {l x : Addr} {k : NestedKey} {Q : Value → Shared → Prop} (hh : A.handled = none) (hl : s.heap.IsList l #[.ref x]) (hk : NestedIs s.heap k (.ref x)) (hu : A.units + 3 + k.depth < cLine)
    (hq : ∀ (g : Heap) (tk : Nat), OneSet w g s.heap.objs.size (.ref x) → (∀ b o, s.heap.get? b = some o → g.get? b = some o) → Q (.ref s.heap.objs.size) { s with heap := g, toks := tk }) :
    wpAny (model P w) A (call (.type "set") [.ref l]) Q E s := by
  refine set_of_list (fun i g => (i = 0 → g.get? s.heap.objs.size = some (newSet w)) ∧ (i = 1 → OneSet w g s.heap.objs.size (.ref x))) (fun i g g' h q => ⟨fun e => q _ (h.1 e), fun e => ?_⟩) hh hl (fun g e => ⟨fun _ => e, fun z => by cases z⟩)
    (fun i v z Q X hlt hv pd kp q => ?_) fun g tk pd kp => hq g tk (pd.2 rfl) kp
  · obtain ⟨c, ep, t, h1, h2⟩ := h.2 e
    exact ⟨c, ep, t, q _ h1, h2⟩
  · have hi : i = 0 := by
      have : i < 1 := hlt
      omega
    subst hi
    have hv : v = .ref x := (Option.some.inj hv).symm
    subst hv
    have hx : NestedIs z.heap k (.ref x) := hk.at (fun a o vs n e _ => kp a o e) k _ 
    unfold setAdd
    refine wpAny_holding (wpAny_bind (pyHash_key k _ _ z _ hx (by simp only [Around.in1_units]; omega) ?_))
    exact add_fresh (z := { z with toks := z.toks + k.draws }) (pd.1 rfl) hx fun b g sb o => q b g _ sb (Nat.le_add_right _ _) ⟨fun z => (by cases z), fun _ => o⟩
end
end Q
set_option autoImplicit false
set_option linter.all false
set_option maxRecDepth 100000
set_option maxHeartbeats 8000000
namespace Q
open PySem PySem.Spec PyProof.Rows L2
section
variable {P : Program} {w : World} {A : Around} {E : Value → Shared → Prop} {s : Shared}
theorem sorted_one {a : Addr} {x : Value} {d : D} {as : List Addr} {Q : Value → Shared → Prop} (hs : OneSet w s.heap a x) (hh : A.handled = none) (rd : Reads s.heap x d as) (hal : PySem.W.alike d d = true) (hn : d ≠ .none) (hu : A.units + 2 + d.depth < cLine)
    (hq : ∀ z p c, (∀ b o, s.heap.get? b = some o → z.heap.get? b = some o) → z.gens = s.gens → z.os = s.os → s.heap.objs.size ≤ p → z.heap.get? p = some (seqObj "list" #[x] c) → Q (.ref p) z) :
    wpAny (model P w) A (call (.builtin "sorted") [.ref a]) Q E s := by
  obtain ⟨c, ep, t, ho, hf, hr, hl⟩ := hs
  refine Calls.call_function_entry kind_sorted plain_sorted entry_sorted (args_sorted1 _) ?_
  unfold Builtin.«sorted»
  refine wpAny_bind (m := checkCount "sorted" 1 1 _) (wpAny_pure ?_)
  refine wpAny_bind (collect_set (A := A.in1) hh ⟨_, ho, rfl, rfl⟩ hf (by show (1 : Nat) < scanBound; decide) hr hl fun z vs k1 hz g1 o1 pm => ?_)
  have hv : vs = [x] := List.perm_singleton.mp pm
  subst hv
  refine wpAny_bind (wpAny_newList ?_ (by show (1 : Nat) ≤ sizeLine; decide))
  have hoL : (z.heap.push (seqObj "list" [x].toArray 0)).get? z.heap.objs.size = some (seqObj "list" [x].toArray 0) := Heap.get?_push_size _ rfl
  have rd2 : Reads (PySem.W.sortingHeap (z.heap.push (seqObj "list" [x].toArray 0)) z.heap.objs.size [x]) x d as := PyProof.Rows.Reads.keeps (fun b o e => by
    have hlt := Heap.lt_size (k1 b o e)
    exact PySem.W.sortingHeap_old (Nat.ne_of_lt hlt) (Heap.get?_push_of_some _ (k1 b o e))) rd
  have al : PySem.W.AllAlike [d] := fun d1 h1 d2 h2 => by
    rw [List.mem_singleton.mp h1, List.mem_singleton.mp h2]; exact hal
  have so : PySem.W.SortsAt P w A.in1.in1 { z with heap := PySem.W.sortingHeap (z.heap.push (seqObj "list" [x].toArray 0)) z.heap.objs.size [x] } (PySem.W.dataKind (PySem.W.sortingHeap (z.heap.push (seqObj "list" [x].toArray 0)) z.heap.objs.size [x]) [d]) [x] := by
    refine ⟨fun v hv => ?_, general', ?_, fun h2 => absurd h2 (by show ¬ (2 : Nat) ≤ 1; decide)⟩
    · rw [List.mem_singleton.mp hv]
      exact ⟨_, PySem.W.dataKind_some al (List.mem_singleton.mpr rfl) rd2⟩
    · intro X u v ku kv Q' hu' hv' q
      obtain ⟨d1, as1, m1, r1, rfl⟩ := PySem.W.dataKind_inv hu'
      obtain ⟨d2, as2, m2, r2, rfl⟩ := PySem.W.dataKind_inv hv'
      have e1 := List.mem_singleton.mp m1
      have e2 := List.mem_singleton.mp m2
      subst e1
      subst e2
      show wpAny (model P w) A.in1.in1 (oneLt' false u v) Q' X _
      exact PySem.W.oneLt_alike (f := false) (fun z => by cases z) r1 r2 hal hn (by rw [Nat.min_self]; simp only [Around.in1_units]; omega) q
  refine wpAny_bind (wpAny_holding (wpAny_call_entry slot_list_sort ⟨_, hoL, rfl⟩ entry_list_sort (PySem.W.list_sort_vals (s := { z with heap := z.heap.push (seqObj "list" [x].toArray 0) }) hoL so (by show (1 : Nat) ≤ sizeLine; decide) ⟨_, rfl, ?_⟩) (args_list_sort _)))
  have e1 : PySem.W.sortVals (PySem.W.dataKind (PySem.W.sortingHeap (z.heap.push (seqObj "list" [x].toArray 0)) z.heap.objs.size [x]) [d]) false [x] [x] = [x] := by
    unfold PySem.W.sortVals
    simp
  rw [e1]
  obtain ⟨c1, hc⟩ := sortedHeap_at (vs := [x]) (out := [x].toArray) hoL
  refine wpAny_pure ⟨_, rfl, hq _ z.heap.objs.size c1 (fun b o e => ?_) g1 o1 hz hc⟩
  have q := k1 b o e
  have hlt := Heap.lt_size q
  show (sortedHeap (z.heap.push (seqObj "list" [x].toArray 0)) z.heap.objs.size [x] [x].toArray).get? b = some o
  rw [sortedHeap_old (Nat.ne_of_lt hlt) (by rw [size_push']; exact Nat.lt_succ_of_lt hlt)]
  exact Heap.get?_push_of_some _ q
end
section
variable {X : Cx} {F H : Hp}
theorem key_of_rp {pins : List (Addr × Obj)} {σ : L2.St} {s : Shared} (I : Inv X pins σ H s) (sF : Same F H) : ∀ (n : Nat) (d : D) (v : V) (u : Value), hashN n d = true → Rp X.K F v d → RelV v u → ∃ k : NestedKey, NestedIs s.heap k u ∧ k.depth ≤ n := by
  intro n
  induction n with
  | zero =>
    intro d v u h r q
    cases r with
    | non => cases q; exact ⟨_, .none, Nat.le_refl _⟩
    | bl b => cases q; exact ⟨_, .bool rfl, Nat.le_refl _⟩
    | int i => obtain ⟨t, rfl⟩ := q; exact ⟨_, .int _ _, Nat.le_refl _⟩
    | str x => obtain ⟨t, rfl⟩ := q; exact ⟨_, .text _ _, Nat.le_refl _⟩
    | _ => cases h
  | succ n ih =>
    intro d v u h r q
    cases r with
    | non => cases q; exact ⟨_, .none, Nat.zero_le _⟩
    | bl b => cases q; exact ⟨_, .bool rfl, Nat.zero_le _⟩
    | int i => obtain ⟨t, rfl⟩ := q; exact ⟨_, .int _ _, Nat.zero_le _⟩
    | str x => obtain ⟨t, rfl⟩ := q; exact ⟨_, .text _ _, Nat.zero_le _⟩
    | tup h1 h2 =>
      cases q
      obtain ⟨its, rv, ⟨o, ho, hc, m, hd⟩, hz⟩ := I.tuple (seqT_mono sF h1)
      have h : _ = true := h
      have hall := List.all_eq_true.mp (show List.all _ (hashN n) = true from h)
      have go : ∀ {ds : List D} {vs : List V} {us : List Value}, (∀ x ∈ ds, hashN n x = true) → RpL X.K F vs ds → Vals vs us → ∃ ks, NestedAll s.heap ks us ∧ NestedKey.depthAll ks ≤ n := by
        intro ds
        induction ds with
        | nil => intro vs us _ r q; cases r; cases q; exact ⟨[], .nil, Nat.zero_le _⟩
        | cons d ds ihd =>
          intro vs us hx r q
          cases r with
          | cons r1 r2 =>
            cases q with
            | cons q1 q2 =>
              obtain ⟨k, k1, k2⟩ := ih d _ _ (hx d (by simp)) r1 q1
              obtain ⟨ks, k3, k4⟩ := ihd (fun x hm => hx x (by simp [hm])) r2 q2
              exact ⟨k :: ks, .cons k1 k3, by simp only [NestedKey.depthAll]; omega⟩
      obtain ⟨ks, k1, k2⟩ := go hall h2 rv
      exact ⟨.tup ks, .tup ho hc hd (by simpa using k1), by simp only [NestedKey.depth]; omega⟩
    | _ => cases h
def oneO (w : World) (a : Addr) (x : V) : HO := .ext fun h => ∃ u, RelV x u ∧ OneSet w h a u
theorem oneO_new {w : World} {P : Program} {H : Hp} {h : Heap} {a : Addr} {x : V} {u : Value} (r : RelV x u) (R : OneSet w h a u) : ObjOk P w H h a (oneO w a x) := by
  have R2 := R
  obtain ⟨c, ep, t, ho, r2⟩ := R2
  refine ⟨⟨u, r, R⟩, ⟨_, ho⟩, fun h1 h2 p k => ?_⟩
  obtain ⟨u1, q1, c1, ep1, t1, ho1, q2⟩ := p
  exact ⟨u1, q1, c1, ep1, t1, k _ ho1, q2⟩
def rSetQ (K : PySem.W.Frag) (w : World) : List V → Hp → VK → Prop := fun xs H Q => ∃ F x ds, xs = [x] ∧ Same F H ∧ Vw K F H x (.list ds) ∧
  ((∃ ns, intsOf ds = some ns ∧ ns.length ≤ 60 ∧ ∀ p c, H p = none → c ≤ ns.length → Q (.ref p) (upd H p (SetO w p (fun j => decide (j ∈ ns)) c))) ∨
   (∃ ts, ds = [.tuple ts] ∧ hashN 8 (.tuple ts) = true ∧ ∀ p y, H p = none → Rp K F y (.tuple ts) → Q (.ref p) (upd H p (oneO w p y))))
theorem cr_setQ (hc : X.calm = true) (hu : X.A.units + 65 < cLine) : CallR X (.type "set") (rSetQ X.K X.w) := by
  intro pins s σ H xs us Q I r h
  obtain ⟨F, x, ds, rfl, sF, hx, h⟩ := h
  obtain ⟨a, vs, rfl, ha, ra⟩ := hx.list sF
  obtain ⟨its, rv, pl, hz⟩ := I.list (.inl (.inl ha))
  rw [Vals.ref1 r]
  rcases h with ⟨ns, e1, h60, q⟩ | ⟨ts, rfl, hh, q⟩
  · obtain ⟨ev, _⟩ := ra.ints e1
    subst ev
    refine set_ints (I.ok.hd hc) pl.isList (by simpa using rv.ints) (by unfold scanBound; omega) fun g tk c R hl k => ?_
    have hn : H s.heap.objs.size = none := I.hok.fresh (Nat.le_refl _)
    exact ⟨.ref _, _, I.laid (t' := tk) k (Nat.le_refl _) (setO_new R), rfl, q _ c hn hl⟩
  · cases ra with
    | cons r1 r2 =>
      cases r2
      cases rv with
      | cons q1 q2 =>
        cases q2
        cases r1 with
        | tup t1 t2 =>
          cases q1
          obtain ⟨k, k1, k2⟩ := key_of_rp I sF 8 _ _ _ hh (.tup t1 t2) rfl
          refine set_one (I.ok.hd hc) pl.isList k1 (by omega) fun g tk R kk => ?_
          have hn : H s.heap.objs.size = none := I.hok.fresh (Nat.le_refl _)
          exact ⟨.ref _, _, I.laid (t' := tk) kk (Nat.le_refl _) (oneO_new (x := .ref _) rfl R), rfl, q _ _ hn (.tup t1 t2)⟩
def rSort1 (K : PySem.W.Frag) (w : World) : List V → Hp → VK → Prop := fun vs H Q => ∃ F a y ts, vs = [V.ref a] ∧ H a = some (oneO w a y) ∧ Same F H ∧ Rp K F y (.tuple ts) ∧ okD 60 (.tuple ts) = true ∧ PySem.W.alike (.tuple ts) (.tuple ts) = true ∧
  ∀ p, H p = none → Q (.ref p) (upd H p (.lst [y]))
theorem cr_sort1 (hc : X.calm = true) (hu : X.A.units + 65 < cLine) : CallR X (.builtin "sorted") (rSort1 X.K X.w) := by
  intro pins s σ H xs us Q I r h
  obtain ⟨F, a, y, ts, rfl, ha, sF, ry, ok, al, q⟩ := h
  rw [Vals.ref1 r]
  obtain ⟨u, ru, R⟩ := (I.hok a _ ha).1
  obtain ⟨as, rd⟩ := Dp.reads I _ _ _ (Rp.dp 60 _ _ ok (ry.mono sF)) ru
  have hd := (okD_plain _ _ ok).2
  refine sorted_one R (I.ok.hd hc) rd al (by simp) (by omega) fun z p c k g o hp hg => ?_
  have hn : H p = none := I.hok.fresh hp
  have J : Inv X pins σ (upd H p (.lst [y])) { s with heap := z.heap, gens := z.gens, drawn := z.drawn, toks := z.toks } :=
    I.call (ch := []) (Un.laid k hp hn) (I.hok.laid k hp ⟨by show (1 : Nat) ≤ sizeLine; decide, [u], c, .cons ru .nil, hg⟩) (by rw [g]; exact I.bare) (fun _ b => nomatch b)
  have e : z = { s with heap := z.heap, gens := z.gens, drawn := z.drawn, toks := z.toks } := by
    cases z
    cases s
    cases o
    rfl
  rw [e]
  exact ⟨.ref p, _, J, rfl, q p hn⟩
theorem hash_ok : ∀ (n : Nat) (d : D), hashN n d = true → okD n d = true := by
  intro n
  induction n with
  | zero => intro d h; cases d <;> first | rfl | cases h
  | succ n ih =>
    intro d h
    cases d with
    | tuple xs => exact List.all_eq_true.mpr fun x hx => ih x (List.all_eq_true.mp (show xs.all (hashN n) = true from h) x hx)
    | list xs => cases h
    | dict xs => cases h
    | _ => rfl
section
variable {K : PySem.W.Frag} {F0 H0 : Hp} {Γ : List O} {a : Expr} {fa : Env → Option D} {p1 p2 q1 q2 : Pos}
theorem step_laid {F H : Hp} {p : Addr} {o : HO} (s : Same F H) (hp : H p = none) : Step F H F (upd H p o) := ⟨.refl _, s.trans (same_upd' hp), same_upd' hp, fun _ _ z => .inl z⟩
theorem sset_inv {ds : List D} {d : D} (h : biD .sset (.list ds) = some d) : (∃ ns, intsOf ds = some ns ∧ ns.length ≤ 60 ∧ d = .list ((usort ns).map .int)) ∨ ∃ ts, ds = [.tuple ts] ∧ hashN 8 (.tuple ts) = true ∧ PySem.W.alike (.tuple ts) (.tuple ts) = true ∧ d = .list [.tuple ts] := by
  have gen : ((intsOf ds).bind fun ns => gate (decide (ns.length ≤ 60)) (PyData.list ((usort ns).map .int))) = some d → ∃ ns, intsOf ds = some ns ∧ ns.length ≤ 60 ∧ d = .list ((usort ns).map .int) := fun h => by
    simp only [Option.bind_eq_some_iff] at h
    obtain ⟨ns, h1, h2⟩ := h
    obtain ⟨h3, h4⟩ := gate_some h2
    exact ⟨ns, h1, dec_t h3, h4.symm⟩
  cases ds with
  | nil => exact .inl (gen h)
  | cons a r =>
    cases a with
    | tuple ts =>
      cases r with
      | nil =>
        obtain ⟨h1, h2⟩ := gate_some (show gate _ _ = some d from h)
        obtain ⟨h3, h4⟩ := and_t h1
        exact .inr ⟨ts, rfl, h3, h4, h2.symm⟩
      | cons b r => exact .inl (gen h)
    | _ => exact .inl (gen h)
theorem q_sset (hK : X.K = K) (hu : X.A.units + 65 < cLine) (hc : X.calm = true) (hg : Gl X "sorted") (hm : X.mg "sorted" = none) (hg2 : Gl X "set") (hm2 : X.mg "set" = none)
    (hst : starEach [a] X.env = (false, eval a X.env) :: starEach [] X.env) (ha : PE X a (tV K F0 H0 Γ fa)) :
    PE X (.Call (.Name "sorted" p1) [.Call (.Name "set" p2) [a] [] q2] [] q1) (tE K F0 H0 Γ .own fun ρ => (fa ρ).bind (biD .sset)) := by
  subst hK
  have pset : PE X (.Call (.Name "set" p2) [a] [] q2) (tCB (rSetQ X.K X.w) (tCons (tV X.K F0 H0 Γ fa) tNil)) := pe_callTy (cr_setQ hc hu) hg2 hm2 (by decide +kernel) (pa_cons ha pa_nil hst) (by decide) (by decide) hst rfl
  have psort : CallR X (.builtin "sorted") (fun vs H Q => rSortedSet X.w vs H Q ∨ rSort1 X.K X.w vs H Q) := fun pins s σ H xs us Q I r h => by
    rcases h with h | h
    · exact cr_sortedSet hc pins s σ H xs us Q I r h
    · exact cr_sort1 hc hu pins s σ H xs us Q I r h
  refine PE.mono (pe_callB psort hg hm (by decide +kernel) (pa_cons pset pa_nil rfl) (by decide) (by decide) rfl rfl) fun σ H Q ⟨F, ρ, d, R, e1, q⟩ => ?_
  simp only [Option.bind_eq_some_iff] at e1
  obtain ⟨x, ex, e2⟩ := e1
  refine ⟨F, ρ, x, R, ex, fun v F1 H1 s1 w1 => ?_⟩
  cases x with
  | list ds =>
    have fI : ∀ ns, intsOf ds = some ns → ns.length ≤ 60 → d = .list ((usort ns).map .int) → rSetQ X.K X.w [v] H1 fun y H2 => tNil σ H2 fun vs H3 => (rSortedSet X.w (y :: vs) H3 Q ∨ rSort1 X.K X.w (y :: vs) H3 Q) := fun ns h1 h2 h3 => by
      subst h3
      refine ⟨F1, v, ds, rfl, s1.in_, w1, .inl ⟨ns, h1, h2, fun p c hp hl => ?_⟩⟩
      have s2 := step_laid (o := SetO X.w p (fun j => decide (j ∈ ns)) c) s1.in_ hp
      refine .inl ⟨p, _, c, rfl, upd_same, by omega, fun zs p2 hz1 hz2 hz3 hp2 => ?_⟩
      have e : zs = usort ns := ord_eq hz1 usort_ord fun k => by rw [hz2 k, decide_eq_true_eq, usort_mem]
      subst e
      have rl : RpL X.K F1 ((usort ns).map V.int) ((usort ns).map PyData.int) := by
        generalize usort ns = l
        induction l with
        | nil => exact .nil
        | cons k l ih => exact .cons (.int _) ih
      obtain ⟨s3, p3⟩ := post_list (K := X.K) (σ := σ) s2.in_ hp2 rl
      exact q _ _ _ (s1.trans (s2.trans s3)) (p3.back rfl (s1.same.trans s2.same))
    have one : ∀ ts, ds = [.tuple ts] → hashN 8 (.tuple ts) = true → PySem.W.alike (.tuple ts) (.tuple ts) = true → d = .list [.tuple ts] → rSetQ X.K X.w [v] H1 fun y H2 => tNil σ H2 fun vs H3 => (rSortedSet X.w (y :: vs) H3 Q ∨ rSort1 X.K X.w (y :: vs) H3 Q) := fun ts h1 h2 h3 h4 => by
      subst h1 h4
      refine ⟨F1, v, _, rfl, s1.in_, w1, .inr ⟨ts, rfl, h2, fun p y hp ry => ?_⟩⟩
      have s2 := step_laid (o := oneO X.w p y) s1.in_ hp
      refine .inr ⟨F1, p, y, ts, rfl, upd_same, s2.in_, ry, okD_le (by decide) (hash_ok 8 _ h2), h3, fun p2 hp2 => ?_⟩
      obtain ⟨s3, p3⟩ := post_list (K := X.K) (σ := σ) s2.in_ hp2 (RpL.one ry)
      exact q _ _ _ (s1.trans (s2.trans s3)) (p3.back rfl (s1.same.trans s2.same))
    rcases sset_inv e2 with ⟨ns, h1, h2, h3⟩ | ⟨ts, h1, h2, h3, h4⟩
    · exact fI ns h1 h2 h3
    · exact one ts h1 h2 h3 h4
  | _ => cases e2
end
end
end Q
set_option autoImplicit false
set_option linter.all false
set_option maxRecDepth 100000
set_option maxHeartbeats 8000000
namespace Q
open PySem PySem.Spec PyProof.Rows L2
theorem evens_range {α : Type} : ∀ (n : Nat) (m : List α), m.length ≤ n → (List.range ((m.length + 1) / 2)).filterMap (fun k => m[2 * k]?) = evens m := by
  intro n
  induction n with
  | zero => intro m h; cases m with | nil => simp [evens] | cons _ _ => simp at h
  | succ n ih =>
    intro m h
    match m with
    | [] => simp [evens]
    | [a] => simp [evens, List.range_succ]
    | a :: b :: r =>
      have e : ((a :: b :: r).length + 1) / 2 = (r.length + 1) / 2 + 1 := by simp only [List.length_cons]; omega
      rw [e, List.range_succ_eq_map, List.filterMap_cons]
      simp only [Nat.mul_zero, List.getElem?_cons_zero, List.filterMap_map]
      show a :: _ = a :: evens r
      rw [← ih r (by simp only [List.length_cons] at h; omega)]
      congr 1
theorem pick_two (items : Array Value) (i : Int) (hi : 0 ≤ i) : slicePick items (some i) none (some 2) = (evens (items.toList.drop i.toNat)).toArray := by
  unfold slicePick sliceBounds
  simp only [Option.getD_some]
  have c1 : ((2 : Int) > 0) = True := by simp
  simp only [c1, if_true]
  have c2 : ¬ i < 0 := by omega
  simp only [c2, if_false]
  have e0 : max 0 (min i (items.size : Int)) = ((min i.toNat items.size : Nat) : Int) := by omega
  rw [e0]
  generalize ha : min i.toNat items.size = a
  have han : a ≤ items.size := by omega
  have hd : items.toList.drop i.toNat = items.toList.drop a := by
    rw [← ha]
    by_cases h : i.toNat ≤ items.size
    · rw [Nat.min_eq_left h]
    · rw [Nat.min_eq_right (by omega), List.drop_eq_nil_of_le (by rw [Array.length_toList]; omega), List.drop_eq_nil_of_le (by rw [Array.length_toList]; omega)]
  rw [hd, ← evens_range _ _ (Nat.le_refl _), List.length_drop, Array.length_toList]
  congr 1
  unfold sliceRange
  have ec : (have count : Int := if (2 : Int) > 0 then if (a : Int) < (items.size : Int) then ((items.size : Int) - a + 2 - 1) / 2 else 0 else if (a : Int) > items.size then ((a : Int) - items.size - 2 - 1) / -2 else 0; List.map (fun k => ((a : Int) + 2 * (k : Nat)).toNat) (List.range count.toNat)) = List.map (fun k => a + 2 * k) (List.range ((items.size - a + 1) / 2)) := by
    have c : (if (2 : Int) > 0 then if (a : Int) < (items.size : Int) then ((items.size : Int) - a + 2 - 1) / 2 else 0 else if (a : Int) > items.size then ((a : Int) - items.size - 2 - 1) / -2 else 0).toNat = (items.size - a + 1) / 2 := by
      rw [if_pos (by decide)]
      split <;> omega
    show List.map _ (List.range _) = _
    rw [c]
    refine List.map_congr_left fun k _ => ?_
    omega
  rw [ec, List.filterMap_map]
  refine congrArg (fun f => List.filterMap f _) (funext fun k => ?_)
  show items[a + 2 * k]? = _
  rw [List.getElem?_drop, Array.getElem?_toList]
section
variable {X : Cx} {K : PySem.W.Frag} {F0 H0 : Hp} {Γ : List O} {a b : Expr} {fa fb : Env → Option D} {k : Nat} {p1 p3 pos : Pos}
theorem evens_rp {F : Hp} : ∀ {vs : List V} {ds : List D}, RpL K F vs ds → RpL K F (evens vs) (evens ds)
  | _, _, .nil => .nil
  | _, _, .cons h .nil => .cons h .nil
  | _, _, .cons h (.cons _ t) => .cons h (evens_rp t)
theorem evens_vals : ∀ {vs : List V} {us : List Value}, Vals vs us → Vals (evens vs) (evens us)
  | _, _, .nil => .nil
  | _, _, .cons h .nil => .cons h .nil
  | _, _, .cons h (.cons _ t) => .cons h (evens_vals t)
theorem evens_len {α : Type} : ∀ (l : List α), (evens l).length ≤ l.length
  | [] => Nat.le_refl _
  | [_] => Nat.le_refl _
  | _ :: _ :: r => by have := evens_len r; simp only [evens, List.length_cons]; omega
theorem q_st2 (hK : X.K = K) (ha : PE X a (tV K F0 H0 Γ fa)) (hb : PE X b (tV K F0 H0 Γ fb)) :
    PE X (.Subscript a (.Slice (some b) none (some (.Constant (.int 2) k p1)) p3) pos) (tE K F0 H0 Γ .own fun ρ => (fa ρ).bind fun x => (fb ρ).bind fun
      | .int i => st2D i x
      | _ => none) := by
  subst hK
  refine ⟨fun pins s σ H Q I ⟨F, ρ, d, R, e1, q⟩ => ?_⟩
  simp only [Option.bind_eq_some_iff] at e1
  obtain ⟨x, ex, y, ey, ed⟩ := e1
  refine Subscript_ (thn (ha.run pins s σ H (fun v H1 => ∃ F1, Step F H F1 H1 ∧ Vw X.K F1 H1 v x) I ⟨F, ρ, x, R, ex, fun v F1 H1 s1 w1 => ⟨F1, s1, w1⟩⟩) fun v s1 ⟨xv, H1, I1, r1, F1, st1, w1⟩ => ?_)
  cases y with
  | int i =>
    have ed : st2D i x = some d := ed
    cases x with
    | list xs =>
      obtain ⟨h0, ed⟩ := gate_some (show gate _ _ = some d from ed)
      subst ed
      have h0 := dec_t h0
      have hst : PO X (some (.Constant (.int 2) k p1)) (tPart (tC (.int 2))) := po_some pe_int
      refine wpAny_Slice (thn ((po_some hb).run pins s1 σ H1 (fun o H2 => o = some i ∧ ∃ F2, Step F1 H1 F2 H2) I1 ⟨F1, ρ, .int i, R.step st1, ey, fun u F2 H2 s2 w2 => ⟨i, w2.int, rfl, F2, s2⟩⟩) fun vl s2 ⟨l, H2, I2, pl, el, F2, st2⟩ => ?_)
      subst el
      refine thn (po_none.run pins s2 σ H2 (fun o H3 => o = none ∧ H3 = H2) I2 ⟨rfl, rfl⟩) fun vu s3 ⟨u, H3, I3, pu, eu, e3⟩ => ?_
      subst eu e3
      refine thn (hst.run pins s3 σ H3 (fun o H4 => o = some 2 ∧ H4 = H3) I3 ⟨2, rfl, rfl, rfl⟩) fun vt s4 ⟨o, H4, I4, pt, eo, e4⟩ => ?_
      subst eo e4
      have I5 : Inv X pins σ H4 { s4 with heap := s4.heap.push { cls := .type "slice", data := .fields #[vl, vu, vt] } } := I4.kept (t' := s4.toks) fun b ob q => Heap.get?_push_of_some _ q
      have w2 := w1.mono st2
      obtain ⟨c, vs, rfl, hc, rc⟩ := w2.list st2.in_
      cases r1
      obtain ⟨its, r, ht, hz⟩ := I5.list (.inl (.inl hc))
      have hlen := r.length
      show wpAny (model X.prog X.w) X.A (subscriptTail a (.Slice (some b) none (some (.Constant (.int 2) k p1)) p3) (.ref c) (.ref s4.heap.objs.size)) (EP X pins σ Q) X.xe { s4 with heap := s4.heap.push { cls := .type "slice", data := .fields #[vl, vu, vt] } }
      refine tail_any (ops := [.ref c, .ref s4.heap.objs.size]) ht.isList.typeIs (PySem.slot_list_getitem.lookup) ?_ (by with_unfolding_all rfl)
      refine wpAny_getItem_list_slice ht.isList (Heap.IsSliceOf.new _ vl vu vt) pl pu pt (by decide) ?_ (by rw [List.size_toArray]; omega)
      rw [pick_two _ _ h0]
      have vd := evens_vals (r.drop i.toNat)
      have rd := evens_rp (rc.drop i.toNat)
      have hl : (evens (vs.drop i.toNat)).length ≤ sizeLine := by
        have h1 := evens_len (vs.drop i.toNat)
        rw [List.length_drop] at h1
        omega
      have st := st1.trans st2
      have hn := I5.hok.fresh (Nat.le_refl _)
      obtain ⟨s6, p6⟩ := post_list (K := X.K) (σ := σ) st.in_ hn rd
      exact ⟨.ref _, _, I5.laid (t' := s4.toks) (o := .lst (evens (vs.drop i.toNat))) (fun b ob q => Heap.get?_push_of_some _ q) (Nat.le_refl _) ⟨hl, _, 0, vd, Heap.get?_push_size _ rfl⟩, rfl, q _ _ _ (st.trans s6) (p6.back rfl st.same)⟩
    | _ => cases ed
  | _ => cases ed
end
end Q
set_option autoImplicit false
set_option linter.all false
set_option maxRecDepth 100000
set_option maxHeartbeats 4000000
namespace Q
open PySem PySem.Spec PyProof.Rows L2

abbrev Sig := Str → Option (Nat × Bool)
section
variable (isF : Sig)
def slotsOk (Γ : List O) (p : P) : Bool := true
mutual
def md (Γ : List O) : E → Option M
  | .var i => match Γ[i]? with
    | some .frz => some .frz
    | some .own => some (.pl i)
    | _ => none
  | .non => some .frz
  | .bl _ => some .frz
  | .int _ => some .frz
  | .str _ => some .frz
  | .neg a => (md Γ a).map fun _ => .frz
  | .bin _ a b => if (md Γ a).isSome && (md Γ b).isSome then some .own else none
  | .cmp _ a b => if (md Γ a).isSome && (md Γ b).isSome then some .frz else none
  | .chn _ _ a b c => if (md Γ a).isSome && ((md Γ b).isSome && (md Γ c).isSome) then some .frz else none
  | .isN a _ => (md Γ a).map fun _ => .frz
  | .isB a _ _ => (md Γ a).map fun _ => .frz
  | .and a b => if ((md Γ a).map frzable).getD false && ((md Γ b).map frzable).getD false then some .frz else none
  | .or a b => if ((md Γ a).map frzable).getD false && ((md Γ b).map frzable).getD false then some .frz else none
  | .not a => (md Γ a).map fun _ => .frz
  | .ix a b => if (md Γ a).isSome && (md Γ b).isSome then some .frz else none
  | .slu a u => if (md Γ a).isSome && (md Γ u).isSome then some .own else none
  | .sll a l => if (md Γ a).isSome && (md Γ l).isSome then some .own else none
  | .slb a l u => if (md Γ a).isSome && ((md Γ l).isSome && (md Γ u).isSome) then some .own else none
  | .rev a => (md Γ a).map fun _ => .own
  | .st2 a l => if (md Γ a).isSome && (md Γ l).isSome then some .own else none
  | .tup es => if mdF Γ es then some .frz else none
  | .lst es => if mdF Γ es then some .own else none
  | .dc0 => some .own
  | .call m g es => match isF g with
    | none => none
    | some (_, fr) => match m with
      | .frz => if mdF Γ es then some (if fr then .own else .frz) else none
      | .own => if mdF Γ es && fr then some .own else none
      | .scal => if mdV Γ es then some .frz else none
  | .bi _ a => if (md Γ a).isSome then some .own else none
  | .isi a _ => (md Γ a).map fun _ => .frz
  | .mth _ a b => if (md Γ a).isSome && (md Γ b).isSome then some .frz else none
  | .lc _ p it hc c e => if (md Γ it).isSome && ((!hc || (md (setG Γ (psl p)) c).isSome) && ((md (setG Γ (psl p)) e).map frzable).getD false) then some .own else none
  | .dc _ p it k v => if (md Γ it).isSome && ((md (setG Γ (psl p)) k).isSome && ((md (setG Γ (psl p)) v).map frzable).getD false) then some .own else none
  | .rng1 a => (md Γ a).map fun _ => .own
  | .rng2 a b => if (md Γ a).isSome && (md Γ b).isSome then some .own else none
termination_by structural e => e
def mdF (Γ : List O) : L → Bool
  | .nil => true
  | .cons e r => ((md Γ e).map frzable).getD false && mdF Γ r
termination_by structural r => r
def mdV (Γ : List O) : L → Bool
  | .nil => true
  | .cons e r => (md Γ e).isSome && mdV Γ r
termination_by structural r => r
end
end

def visB (sc : Scope) (x : Str) : Bool := match sc.names.lookup x with
  | some .local => true
  | some .cell => true
  | some .free => true
  | _ => false
def glB (sc : Scope) (x : Str) : Bool := match sc.names.lookup x with
  | some .globalImplicit => true
  | _ => false
def plainN (x : Str) : Bool := !(x == ("__debug__" : Str)) && !(x == ("__classdict__" : Str))
def unB : Operator → Option Bop
  | .Add => some .add | .Sub => some .sub | .Mult => some .mul | .FloorDiv => some .fdiv | .Mod => some .mod | .Pow => some .pow | _ => none
def unC : CmpOp → Option Cop
  | .Eq => some .eq | .NotEq => some .ne | .Lt => some .lt | .LtE => some .le | .Gt => some .gt | .GtE => some .ge | .In => some .inn | .NotIn => some .nin | _ => none
theorem unB_ok {op : Operator} {o : Bop} (h : unB op = some o) : op = bopOf o := by cases op <;> cases o <;> first | rfl | (simp [unB] at h)
theorem unC_ok {op : CmpOp} {o : Cop} (h : unC op = some o) : op = copOf o := by cases op <;> cases o <;> first | rfl | (simp [unC] at h)
def noStar : Expr → Bool
  | .Starred _ _ => false
  | _ => true
theorem star_cons {e : Expr} {es : List Expr} {env : PySem.Env} (h : noStar e = true) : starEach (e :: es) env = (false, eval e env) :: starEach es env := by cases e <;> first | rfl | cases h
theorem star_any {es : List Expr} {env : PySem.Env} {pos : Pos} (h : es.all noStar = true) : (backTo pos (starEach es env)).any (·.1) = false := by
  induction es with
  | nil => rfl
  | cons e es ih =>
    rw [List.all_cons, Bool.and_eq_true] at h
    rw [star_cons h.1]
    show (false || (backTo pos (starEach es env)).any (·.1)) = false
    rw [ih h.2]; rfl
def noSlice : Expr → Bool
  | .Slice _ _ _ _ => false
  | _ => true
theorem noSlice_ok {e : Expr} (h : noSlice e = true) : PlainIx e := by
  intro o i
  cases e <;> first | rfl | cases h
def noSet : Expr → Bool
  | .Set _ _ _ => false
  | _ => true
theorem noSet_ok {e : Expr} {env : PySem.Env} (h : noSet e = true) (x : Value) : foldedSetIterable e env x = pure x := by
  cases e <;> first | rfl | cases h
def baseOk : Expr → Bool
  | .Name _ _ => true
  | .ListComp _ _ _ _ => true
  | .Subscript _ _ _ => true
  | .Attribute _ _ _ => true
  | _ => false
theorem baseOk_ok {o : Expr} {m : Str} {env : PySem.Env} {w : Sem Value} (h : baseOk o = true) : attributeBase o m env w = w := by
  cases o <;> first | rfl | cases h
def isNone : Expr → Bool
  | .Constant .none _ _ => true
  | _ => false
def tyOf : Expr → Option Ty
  | .Name x _ => if x = Str.ofString "int" then some .int else if x = Str.ofString "bool" then some .bool else if x = Str.ofString "str" then some .str else if x = Str.ofString "list" then some .list else if x = Str.ofString "tuple" then some .tuple else none
  | _ => none
theorem tyOf_ok {e : Expr} {t : Ty} (h : tyOf e = some t) : ∃ p, e = .Name (Str.ofString (tyN t)) p := by
  cases e with
  | Name x p =>
    refine ⟨p, ?_⟩
    simp only [tyOf] at h
    split at h
    · rename_i z; cases h; rw [z]; rfl
    · split at h
      · rename_i z; cases h; rw [z]; rfl
      · split at h
        · rename_i z; cases h; rw [z]; rfl
        · split at h
          · rename_i z; cases h; rw [z]; rfl
          · split at h
            · rename_i z; cases h; rw [z]; rfl
            · cases h
  | _ => cases h
def tysOf : List Expr → Option (List Ty)
  | [] => some []
  | e :: es => (tyOf e).bind fun t => (tysOf es).map (t :: ·)
theorem tysOf_ok : ∀ {es : List Expr} {ts : List Ty}, tysOf es = some ts → Paired (fun (t : Ty) e => ∃ p, e = Expr.Name (Str.ofString (tyN t)) p) ts es
  | [], _, h => by cases h; exact .nil
  | e :: es, ts, h => by
    unfold tysOf at h
    simp only [Option.bind_eq_some_iff, Option.map_eq_some_iff] at h
    obtain ⟨t, h1, us, h2, rfl⟩ := h
    exact .cons (tyOf_ok h1) (tysOf_ok h2)
def bfName : Bf → Str
  | .len => "len" | .abs => "abs" | .int => "int" | .str => "str" | .list => "list" | .tuple => "tuple" | .sorted => "sorted" | .max => "max" | .min => "min" | .sum => "sum" | .sset => "sorted" | .lset => "len"
def locB (sc raw : Scope) (x : Str) : Bool := (match sc.names.lookup x with
    | some .local => true
    | _ => false) || ((match sc.names.lookup x with
    | some .cell => true
    | _ => false) && (match raw.names.lookup x with
    | some .cell => true
    | _ => false))
def mNm (N : List Str) (p : Str → Bool) (e : Expr) (i : Nat) : Bool := match e with
  | .Name x _ => decide (N[i]? = some x) && p x
  | _ => false
def mTg (N : List Str) (p : Str → Bool) : List Expr → List Nat → Bool
  | [], [] => true
  | e :: es, i :: is => mNm N p e i && mTg N p es is
  | _, _ => false
def mP (N : List Str) (p : Str → Bool) (e : Expr) : P → Bool
  | .nm i => mNm N p e i
  | .tp is => match e with
    | .Tuple es _ _ => mTg N p es is
    | _ => false
section
variable (N : List Str) (isF : Sig)
mutual
def mE : Nat → Scope → Expr → E → Bool
  | 0, _, _, _ => false
  | n + 1, sc, e, t => match t with
    | .var i => match e with
      | .Name x _ => decide (N[i]? = some x) && (visB sc x && plainN x)
      | .BoolOp _ [c] _ => mE n sc c (.var i)
      | _ => false
    | .non => match e with
      | .Constant .none _ _ => true
      | _ => false
    | .bl b => match e with
      | .Constant (.bool c) _ _ => decide (b = c)
      | _ => false
    | .int i => match e with
      | .Constant (.int j) _ _ => decide (i = j)
      | _ => false
    | .str x => match e with
      | .Constant (.str y) _ _ => decide (x = y)
      | _ => false
    | .neg a => match e with
      | .UnaryOp .USub b _ => mE n sc b a
      | _ => false
    | .bin o a b => match e with
      | .BinOp c op d _ => decide (unB op = some o) && (mE n sc c a && mE n sc d b)
      | _ => false
    | .cmp o a b => match e with
      | .Compare c [op] [d] _ => decide (unC op = some o) && (!behindInMarks op d && (mE n sc c a && mE n sc d b))
      | .BoolOp _ [c] _ => mE n sc c (.cmp o a b)
      | _ => false
    | .chn o1 o2 a b c => match e with
      | .Compare u [p1, p2] [v, w] _ => decide (unC p1 = some o1) && (decide (unC p2 = some o2) && (!lastMarks [p1, p2] [v, w] && (mE n sc u a && (mE n sc v b && mE n sc w c))))
      | .BoolOp _ [d] _ => mE n sc d (.chn o1 o2 a b c)
      | _ => false
    | .isN a ng => match e with
      | .Compare c [op] [.Constant .none _ _] _ => decide (op = if ng then .IsNot else .Is) && mE n sc c a
      | .BoolOp _ [c] _ => mE n sc c (.isN a ng)
      | _ => false
    | .isB a t ng => match e with
      | .Compare c [op] [.Constant (.bool u) _ _] _ => decide (op = if ng then .IsNot else .Is) && (decide (t = u) && mE n sc c a)
      | .BoolOp _ [c] _ => mE n sc c (.isB a t ng)
      | _ => false
    | .and a b => match e with
      | .BoolOp .And (c :: d :: rest) pos => mE n sc c a && mE n sc (.BoolOp .And (d :: rest) pos) b
      | .BoolOp _ [c] _ => mE n sc c (.and a b)
      | _ => false
    | .or a b => match e with
      | .BoolOp .Or (c :: d :: rest) pos => mE n sc c a && mE n sc (.BoolOp .Or (d :: rest) pos) b
      | .BoolOp _ [c] _ => mE n sc c (.or a b)
      | _ => false
    | .not a => match e with
      | .UnaryOp .Not b _ => mE n sc b a
      | .BoolOp _ [c] _ => mE n sc c (.not a)
      | _ => false
    | .ix a b => match e with
      | .Subscript c d _ => noSlice d && (mE n sc c a && mE n sc d b)
      | _ => false
    | .slu a u => match e with
      | .Subscript c (.Slice none (some d) none _) _ => mE n sc c a && mE n sc d u
      | _ => false
    | .sll a l => match e with
      | .Subscript c (.Slice (some d) none none _) _ => mE n sc c a && mE n sc d l
      | _ => false
    | .slb a l u => match e with
      | .Subscript c (.Slice (some d) (some f) none _) _ => mE n sc c a && (mE n sc d l && mE n sc f u)
      | _ => false
    | .rev a => match e with
      | .Subscript c (.Slice none none (some (.UnaryOp .USub (.Constant (.int i) _ _) _)) _) _ => decide (i = 1) && mE n sc c a
      | _ => false
    | .st2 a l => match e with
      | .Subscript c (.Slice (some d) none (some (.Constant (.int i) _ _)) _) _ => decide (i = 2) && (mE n sc c a && mE n sc d l)
      | _ => false
    | .tup es => match e with
      | .Tuple xs _ _ => mL n sc xs es
      | _ => false
    | .lst es => match e with
      | .List xs _ => mL n sc xs es
      | _ => false
    | .dc0 => match e with
      | .Dict [] [] _ => true
      | _ => false
    | .call _ g es => match e with
      | .Call (.Name x _) xs [] _ => decide (x = g) && (glB sc x && (plainN x && mL n sc xs es))
      | .BoolOp _ [c] _ => mE n sc c t
      | _ => false
    | .bi f a => match f with
      | .sset => match e with
        | .Call (.Name x _) [.Call (.Name y _) [c] [] _] [] _ => decide (x = ("sorted" : Str)) && (glB sc x && (decide (y = ("set" : Str)) && (glB sc y && (noStar c && mE n sc c a))))
        | _ => false
      | .lset => match e with
        | .Call (.Name x _) [.Call (.Name y _) [c] [] _] [] _ => decide (x = ("len" : Str)) && (glB sc x && (decide (y = ("set" : Str)) && (glB sc y && (noStar c && mE n sc c a))))
        | _ => false
      | f => match e with
        | .Call (.Name x _) [c] [] _ => decide (x = bfName f) && (glB sc x && (noStar c && (match f, c, a with
          | .list, .Call (.Name y _) [d] [] _, .rng1 a1 => decide (y = ("range" : Str)) && (glB sc y && (noStar d && mE n sc d a1))
          | .list, .Call (.Name y _) [d, d2] [] _, .rng2 a1 a2 => decide (y = ("range" : Str)) && (glB sc y && (noStar d && (noStar d2 && (mE n sc d a1 && mE n sc d2 a2))))
          | _, _, _ => mE n sc c a)))
        | _ => false
    | .isi a ts => match e with
      | .Call (.Name x _) [c, d] [] _ => decide (x = ("isinstance" : Str)) && (glB sc x && (noStar c && (mE n sc c a && ((ts.all fun t => glB sc (Str.ofString (tyN t))) && (match d with
        | .Tuple xs _ _ => decide (tysOf xs = some ts) && decide (ts.length ≤ 1000)
        | d => match ts with
          | [t] => decide (tyOf d = some t)
          | _ => false)))))
      | .BoolOp _ [c] _ => mE n sc c (.isi a ts)
      | _ => false
    | .mth .index a b => match e with
      | .Call (.Attribute c m apos) [d] [] pos => decide (m = ("index" : Str)) && (baseOk c && ((apos.endLine == pos.line) && (noStar d && (mE n sc c a && mE n sc d b))))
      | _ => false
    | .lc own p it hc c el => match e with
      | .ListComp elt [⟨tg, iter, ifs, 0⟩] scope _ => blkC N sc scope (own.map fun i => (N.getD i (Str.ofString ""), i)) && ((psl p).all (fun i => own.contains i) && (mP N (locB (relS scope sc) scope) tg p && (noSet iter && (mI n sc iter it && ((match ifs, hc with
        | [], false => true
        | [f], true => mE n (relS scope sc) f c
        | _, _ => false) && mE n (relS scope sc) elt el)))))
      | _ => false
    | .dc own p it k v => match e with
      | .DictComp kx vx [⟨tg, iter, [], 0⟩] scope _ => blkC N sc scope (own.map fun i => (N.getD i (Str.ofString ""), i)) && ((psl p).all (fun i => own.contains i) && (mP N (locB (relS scope sc) scope) tg p && (noSet iter && (mI n sc iter it && (mE n (relS scope sc) kx k && mE n (relS scope sc) vx v)))))
      | _ => false
    | .rng1 _ => false
    | .rng2 _ _ => false
def mL : Nat → Scope → List Expr → L → Bool
  | 0, _, _, _ => false
  | n + 1, sc, es, t => match es, t with
    | [], .nil => true
    | e :: es, .cons a r => noStar e && (mE n sc e a && mL n sc es r)
    | _, _ => false
def mI : Nat → Scope → Expr → E → Bool
  | 0, _, _, _ => false
  | n + 1, sc, e, t => match t with
    | .rng1 a => match e with
      | .Call (.Name y _) [d] [] _ => decide (y = ("range" : Str)) && (glB sc y && (noStar d && mE n sc d a))
      | _ => false
    | .rng2 a b => match e with
      | .Call (.Name y _) [d, d2] [] _ => decide (y = ("range" : Str)) && (glB sc y && (noStar d && (noStar d2 && (mE n sc d a && mE n sc d2 b))))
      | _ => false
    | t => mE n sc e t
end
end
end Q
set_option autoImplicit false
set_option linter.all false
set_option maxRecDepth 100000
set_option maxHeartbeats 4000000
namespace Q
open PySem PySem.Spec PyProof.Rows L2
def bltL : List Str := ["len", "abs", "int", "str", "list", "tuple", "sorted", "max", "min", "sum", "set", "isinstance", "range", "bool"]
structure Good (X : Cx) (N : List Str) (isF : Sig) (Φ : Fns) (k : Nat) : Prop where
  names : X.N = N
  nd : X.N.Nodup
  calm : X.calm = true
  room : Room k X.A
  blt : ∀ x ∈ bltL, X.mg x = none
  fns : ∀ g n fr, isF g = some (n, fr) → FnAt X k g n fr (Φ g)
section
variable {X : Cx} {N : List Str} {isF : Sig} {Φ : Fns} {k : Nat} {K : PySem.W.Frag} {F0 H0 : Hp} {Γ : List O}
theorem Good.blk (g : Good X N isF Φ k) (s : Shared) (H : Hp) (scope : Scope) (env : PySem.Env) (fp : List Addr) : Good (X.blk s H scope env fp) N isF Φ k := ⟨g.names, g.nd, g.calm, g.room, g.blt, g.fns⟩
theorem Good.u (g : Good X N isF Φ k) : X.A.units + 65 < cLine := by have := g.room.un; omega
theorem PE.ev {e : Expr} {m : M} {f f' : Env → Option D} (h : PE X e (tE K F0 H0 Γ m f)) (hf : ∀ ρ, f' ρ = f ρ) : PE X e (tE K F0 H0 Γ m f') := by
  have : f' = f := funext hf
  rw [this]; exact h
theorem PT.imp {e : Expr} {f f' : Env → Option Bool} (h : PT X e (tB' K F0 H0 Γ f)) (hf : ∀ ρ b, f' ρ = some b → f ρ = some b) : PT X e (tB' K F0 H0 Γ f') := PT.mono h fun σ H Q ⟨F, ρ, b, R, e1, q⟩ => ⟨F, ρ, b, R, hf _ _ e1, q⟩
theorem PW.imp {e : Expr} {f f' : Env → Option Bool} (h : PW X e (tB' K F0 H0 Γ f)) (hf : ∀ ρ b, f' ρ = some b → f ρ = some b) : PW X e (tB' K F0 H0 Γ f') := PW.mono h fun σ H Q ⟨F, ρ, b, R, e1, q⟩ => ⟨F, ρ, b, R, hf _ _ e1, q⟩
theorem visB_ok {x : Str} (h : visB X.env.scope x = true) : Vis X.env.scope x := by
  unfold visB at h
  split at h
  · exact .inl (by assumption)
  · exact .inr (.inl (by assumption))
  · exact .inr (.inr (by assumption))
  · cases h
theorem glB_ok {x : Str} (h : glB X.env.scope x = true) : Gl X x := by
  unfold glB at h
  split at h
  · assumption
  · cases h
theorem plainN_ok {x : Str} (h : plainN x = true) : (x == ("__debug__" : Str)) = false ∧ (x == ("__classdict__" : Str)) = false := by
  unfold plainN at h
  rw [Bool.and_eq_true] at h
  exact ⟨by simpa using h.1, by simpa using h.2⟩
theorem frz_of {o : Option M} (h : (o.map frzable).getD false = true) : ∃ m, o = some m ∧ frzable m = true := by
  cases o with
  | none => cases h
  | some m => exact ⟨m, rfl, h⟩
theorem blk_scope {scope : Scope} {cl : List (Str × Addr)} {C : Addr} : (compEnvC scope cl C X.env).scope = relS scope X.env.scope := rfl
theorem locB_ok {scope : Scope} {cl : List (Str × Addr)} {C : Addr} {s : Shared} {H : Hp} {fp : List Addr} {x : Str} (h : locB (relS scope X.env.scope) scope x = true) :
    Loc (X.blk s H scope (compEnvC scope cl C X.env) fp).env.scope x ∧ ((X.blk s H scope (compEnvC scope cl C X.env) fp).fn x = true ∨ (X.blk s H scope (compEnvC scope cl C X.env) fp).env.scope.names.lookup x = some .local) := by
  unfold locB at h
  rw [Bool.or_eq_true, Bool.and_eq_true] at h
  rcases h with h | ⟨h, h2⟩
  · split at h
    · rename_i z
      exact ⟨.inl z, .inr z⟩
    · cases h
  · split at h
    · rename_i z
      split at h2
      · rename_i z2
        refine ⟨.inr z, .inl ?_⟩
        show (scope.names.lookup x == some .cell) = true
        rw [z2]; rfl
      · cases h2
    · cases h
def Sto (Y : Cx) (p : Str → Bool) : Prop := ∀ x, p x = true → Loc Y.env.scope x ∧ (Y.fn x = true ∨ Y.env.scope.names.lookup x = some .local)
theorem pg_nm {Y : Cx} {e : Expr} {i : Nat} {p : Str → Bool} (hN : Y.N.Nodup) (hp : Sto Y p) (h : mNm Y.N p e i = true) : PG Y e (gName i) := by
  cases e with
  | Name x pp =>
    obtain ⟨h1, h2⟩ := and_t (show (decide (Y.N[i]? = some x) && p x) = true from h)
    obtain ⟨h3, h4⟩ := hp _ h2
    exact pg_name hN (dec_t h1) h3 h4
  | _ => cases h
theorem asg_cons {e : Expr} {es : List Expr} {env : PySem.Env} {p : Str → Bool} {i : Nat} {N : List Str} (h : mNm N p e i = true) : assignEach (e :: es) env = (false, assign e env) :: assignEach es env := by
  cases e <;> first | rfl | cases h
theorem pgs_of {Y : Cx} {p : Str → Bool} (hN : Y.N.Nodup) (hp : Sto Y p) : ∀ {es : List Expr} {is : List Nat}, mTg Y.N p es is = true → PGs Y es (gSeq is) ∧ (assignEach es Y.env).length = is.length ∧ (assignEach es Y.env).findIdx? (·.1) = none
  | [], [], _ => ⟨pgs_nil, rfl, rfl⟩
  | [], _ :: _, h => by cases h
  | _ :: _, [], h => by cases h
  | e :: es, i :: is, h => by
    obtain ⟨h1, h2⟩ := and_t (show (_ && _) = true from h)
    obtain ⟨g1, g2, g3⟩ := pgs_of hN hp h2
    have ha := asg_cons (es := es) (env := Y.env) h1
    refine ⟨pgs_cons (pg_nm hN hp h1) g1 (by rw [ha]; rfl), by rw [ha]; simp [g2], ?_⟩
    rw [ha]
    rw [List.findIdx?_cons]
    simp [g3]
theorem pg_P {Y : Cx} {p : Str → Bool} {tg : Expr} {q : P} (hc : Y.calm = true) (hN : Y.N.Nodup) (hp : Sto Y p) (h : mP Y.N p tg q = true) : PG Y tg (gP Y.K q) := by
  cases q with
  | nm i => exact pg_nm hN hp h
  | tp is =>
    cases tg with
    | Tuple es kk pp =>
      obtain ⟨g1, g2, g3⟩ := pgs_of hN hp (show mTg Y.N p es is = true from h)
      exact pg_tup hc g1 g2 g3
    | _ => cases h
theorem pg_blk {tg : Expr} {q : P} {scope : Scope} (g : Good X N isF Φ k) (hK : X.K = K) (h : mP N (locB (relS scope X.env.scope) scope) tg q = true) (s : Shared) (H : Hp) (C : Addr) (cl : List (Str × Addr)) (fp : List Addr) :
    PG (X.blk s H scope (compEnvC scope cl C X.env) fp) tg (gP K q) := by
  subst hK
  have hn := g.names
  subst hn
  exact pg_P (p := locB (relS scope X.env.scope) scope) (Y := X.blk s H scope (compEnvC scope cl C X.env) fp) g.calm g.nd (fun x hx => locB_ok hx) h
end

structure Snd (N : List Str) (isF : Sig) (Φ : Fns) (n : Nat) : Prop where
  ex : ∀ {sc : Scope} {e : Expr} {t : E}, mE N n sc e t = true → ∀ {X : Cx} {k : Nat} {K : PySem.W.Frag} {F0 H0 : Hp} {Γ : List O} {m : M}, Good X N isF Φ k → X.env.scope = sc → X.K = K → md isF Γ t = some m → PE X e (tE K F0 H0 Γ m (ev Φ t))
  ts : ∀ {sc : Scope} {e : Expr} {t : E}, mE N n sc e t = true → ∀ {X : Cx} {k : Nat} {K : PySem.W.Frag} {F0 H0 : Hp} {Γ : List O} {m : M}, Good X N isF Φ k → X.env.scope = sc → X.K = K → md isF Γ t = some m →
    PT X e (tB' K F0 H0 Γ fun ρ => (ev Φ t ρ).bind tru) ∧ ∀ op vs pos, e = .BoolOp op vs pos → PW X e (tB' K F0 H0 Γ fun ρ => (ev Φ t ρ).bind tru)
  lf : ∀ {sc : Scope} {es : List Expr} {t : L}, mL N n sc es t = true → ∀ {X : Cx} {k : Nat} {K : PySem.W.Frag} {F0 H0 : Hp} {Γ : List O}, Good X N isF Φ k → X.env.scope = sc → X.K = K → mdF isF Γ t = true → PA X es (tLF K F0 H0 Γ (evL Φ t))
  lv : ∀ {sc : Scope} {es : List Expr} {t : L}, mL N n sc es t = true → ∀ {X : Cx} {k : Nat} {K : PySem.W.Frag} {F0 H0 : Hp} {Γ : List O}, Good X N isF Φ k → X.env.scope = sc → X.K = K → mdV isF Γ t = true → PA X es (tLV K F0 H0 Γ (evL Φ t))
  it : ∀ {sc : Scope} {e : Expr} {t : E}, mI N n sc e t = true → ∀ {X : Cx} {k : Nat} {K : PySem.W.Frag} {F0 H0 : Hp} {Γ : List O} {m : M} {tg : Expr}, Good X N isF Φ k → X.env.scope = sc → X.K = K → md isF Γ t = some m → PI X tg e (tI K F0 H0 Γ fun ρ => (ev Φ t ρ).bind itemsD)
theorem mL_star {N : List Str} : ∀ {n : Nat} {sc : Scope} {es : List Expr} {t : L}, mL N n sc es t = true → es.all noStar = true
  | 0, _, _, _, h => by cases h
  | n + 1, sc, [], _, _ => rfl
  | n + 1, sc, e :: es, .nil, h => by cases h
  | n + 1, sc, e :: es, .cons a r, h => by
    obtain ⟨h1, h2⟩ := and_t (show (noStar e && (mE N n sc e a && mL N n sc es r)) = true from h)
    rw [List.all_cons, h1, mL_star (and_t h2).2]; rfl
section
variable {N : List Str} {isF : Sig} {Φ : Fns} {n : Nat}
theorem snd_lf (S : Snd N isF Φ n) : ∀ {sc : Scope} {es : List Expr} {t : L}, mL N (n + 1) sc es t = true → ∀ {X : Cx} {k : Nat} {K : PySem.W.Frag} {F0 H0 : Hp} {Γ : List O}, Good X N isF Φ k → X.env.scope = sc → X.K = K → mdF isF Γ t = true → PA X es (tLF K F0 H0 Γ (evL Φ t)) := by
  intro sc es t h X k K F0 H0 Γ g hs hK hm
  cases es with
  | nil =>
    cases t with
    | nil => exact q_nilF
    | cons a r => cases h
  | cons e es =>
    cases t with
    | nil => cases h
    | cons a r =>
      obtain ⟨h1, h2⟩ := and_t (show (noStar e && (mE N n sc e a && mL N n sc es r)) = true from h)
      obtain ⟨h2, h3⟩ := and_t h2
      obtain ⟨m1, m2⟩ := and_t (show (((md isF Γ a).map frzable).getD false && mdF isF Γ r) = true from hm)
      obtain ⟨m, e1, e2⟩ := frz_of m1
      exact q_consF (star_cons h1) (PE.fz e2 (S.ex h2 g hs hK e1)) (S.lf h3 g hs hK m2)
theorem snd_lv (S : Snd N isF Φ n) : ∀ {sc : Scope} {es : List Expr} {t : L}, mL N (n + 1) sc es t = true → ∀ {X : Cx} {k : Nat} {K : PySem.W.Frag} {F0 H0 : Hp} {Γ : List O}, Good X N isF Φ k → X.env.scope = sc → X.K = K → mdV isF Γ t = true → PA X es (tLV K F0 H0 Γ (evL Φ t)) := by
  intro sc es t h X k K F0 H0 Γ g hs hK hm
  cases es with
  | nil =>
    cases t with
    | nil => exact q_nilV
    | cons a r => cases h
  | cons e es =>
    cases t with
    | nil => cases h
    | cons a r =>
      obtain ⟨h1, h2⟩ := and_t (show (noStar e && (mE N n sc e a && mL N n sc es r)) = true from h)
      obtain ⟨h2, h3⟩ := and_t h2
      obtain ⟨m1, m2⟩ := and_t (show ((md isF Γ a).isSome && mdV isF Γ r) = true from hm)
      obtain ⟨m, e1⟩ := some_of m1
      exact q_consV (star_cons h1) (PE.vw (S.ex h2 g hs hK e1)) (S.lv h3 g hs hK m2)
theorem blt_of {X : Cx} {k : Nat} (g : Good X N isF Φ k) (x : Str) (h : bltL.contains x = true) : X.mg x = none := g.blt x (by simpa using h)
theorem snd_it (S : Snd N isF Φ n) : ∀ {sc : Scope} {e : Expr} {t : E}, mI N (n + 1) sc e t = true → ∀ {X : Cx} {k : Nat} {K : PySem.W.Frag} {F0 H0 : Hp} {Γ : List O} {m : M} {tg : Expr}, Good X N isF Φ k → X.env.scope = sc → X.K = K → md isF Γ t = some m → PI X tg e (tI K F0 H0 Γ fun ρ => (ev Φ t ρ).bind itemsD) := by
  intro sc e t h X k K F0 H0 Γ m tg g hs hK hm
  have gen : mE N n sc e t = true → PI X tg e (tI K F0 H0 Γ fun ρ => (ev Φ t ρ).bind itemsD) := fun h => q_it hK (PE.vw (S.ex h g hs hK hm))
  cases t with
  | rng1 a =>
    simp only [mI] at h
    split at h
    · obtain ⟨a1, a2⟩ := and_t h
      obtain ⟨b1, b2⟩ := and_t a2
      obtain ⟨c1, c2⟩ := and_t b2
      have d1 := dec_t a1
      subst d1
      subst hs
      simp only [md, Option.map_eq_some_iff] at hm
      obtain ⟨m1, hm1, _⟩ := hm
      exact q_rng1 (glB_ok b1) (blt_of g _ (by decide +kernel)) (star_cons c1) (PE.vw (S.ex c2 g rfl hK hm1))
    · cases h
  | rng2 a b =>
    simp only [mI] at h
    split at h
    · obtain ⟨a1, a2⟩ := and_t h
      obtain ⟨b1, b2⟩ := and_t a2
      obtain ⟨c1, c2⟩ := and_t b2
      obtain ⟨e1, e2⟩ := and_t c2
      obtain ⟨f1, f2⟩ := and_t e2
      have d1 := dec_t a1
      subst d1
      subst hs
      simp only [md] at hm
      split at hm
      · rename_i c
        obtain ⟨c3, c4⟩ := and_t c
        obtain ⟨m1, c3⟩ := some_of c3
        obtain ⟨m2, c4⟩ := some_of c4
        exact q_rng2 (glB_ok b1) (blt_of g _ (by decide +kernel)) (by rw [star_cons c1, star_cons e1]; rfl) (star_cons e1) (PE.vw (S.ex f1 g rfl hK c3)) (PE.vw (S.ex f2 g rfl hK c4))
      · cases hm
    · cases h
  | _ => exact gen h
end
end Q
set_option autoImplicit false
set_option linter.all false
namespace Q
open PySem PySem.Spec PyProof.Rows L2
theorem nodup_len : ∀ (l m : List Int), l.Nodup → (∀ x ∈ l, x ∈ m) → l.length ≤ m.length
  | [], m, _, _ => by simp
  | a :: l, m, hn, hs => by
    obtain ⟨h1, h2⟩ := List.nodup_cons.mp hn
    have hm : a ∈ m := hs a (by simp)
    have ih := nodup_len l (m.erase a) h2 fun x hx => by
      have ne : x ≠ a := fun e => h1 (e ▸ hx)
      exact (List.mem_erase_of_ne ne).mpr (hs x (by simp [hx]))
    rw [List.length_erase_of_mem hm] at ih
    have : 0 < m.length := List.length_pos_of_mem hm
    simp
    omega
theorem met_nodup (val : Nat → Int) : ∀ i, (firstMet val i).Nodup
  | 0 => by rw [firstMet_zero]; exact List.nodup_nil
  | i + 1 => by
    rw [firstMet_succ]
    unfold step_dedup
    split
    · exact met_nodup val i
    · rename_i h
      rw [List.nodup_append]
      refine ⟨met_nodup val i, by simp, fun a ha b hb e => h ?_⟩
      rw [List.mem_singleton.mp hb] at e
      exact List.any_eq_true.mpr ⟨a, ha, by simp [e]⟩
theorem met_mem (ns : List Int) (k : Int) : k ∈ firstMet (fun i => ns.getD i 0) ns.length ↔ k ∈ ns := by
  have e := firstMet_any (fun i => ns.getD i 0) ns.length k
  have e2 : (List.range ns.length).map (fun i => ns.getD i 0) = ns := by
    apply List.ext_getElem
    · simp
    · intro i h1 h2
      simp at h1
      simp [h1]
  rw [e2, Bool.eq_iff_iff, List.any_eq_true, List.any_eq_true] at e
  constructor
  · intro h
    obtain ⟨x, hx, q⟩ := e.mp ⟨k, h, by simp⟩
    exact (beq_iff_eq.mp q) ▸ hx
  · intro h
    obtain ⟨x, hx, q⟩ := e.mpr ⟨k, h, by simp⟩
    exact (beq_iff_eq.mp q) ▸ hx
theorem met_len (ns : List Int) : (firstMet (fun i => ns.getD i 0) ns.length).length = (usort ns).length := by
  refine Nat.le_antisymm (nodup_len _ _ (met_nodup _ _) fun x hx => usort_mem.mpr ((met_mem ns x).mp hx)) (nodup_len _ _ ?_ fun x hx => (met_mem ns x).mpr (usort_mem.mp hx))
  exact usort_ord.imp fun h => Int.ne_of_lt h
section
variable {X : Cx} {K : PySem.W.Frag} {F0 H0 : Hp} {Γ : List O} {a : Expr} {fa : Env → Option D} {p p2 q pos : Pos}
theorem q_lset (hK : X.K = K) (hc : X.calm = true) (hg : Gl X "len") (hm : X.mg "len" = none) (hg2 : Gl X "set") (hm2 : X.mg "set" = none)
    (na : starEach [a] X.env = (false, eval a X.env) :: starEach [] X.env) (ha : PE X a (tV K F0 H0 Γ fa)) :
    PE X (.Call (.Name "len" p) [.Call (.Name "set" p2) [a] [] q] [] pos) (tE K F0 H0 Γ .own fun ρ => (fa ρ).bind (biD .lset)) := by
  subst hK
  refine ⟨fun pins s σ H Q I h => ?_⟩
  obtain ⟨F, ρ, d, R, e1, h⟩ := h
  simp only [Option.bind_eq_some_iff] at e1
  obtain ⟨x, ex, e2⟩ := e1
  refine Call_ (ld_blt I hg hm PySem.boot_len ?_)
  refine PyProof.Rows.callWith_builtin1 (PyProof.Rows.args_cons ?_ rfl) rfl rfl
  refine Call_ (ld_blt I hg2 hm2 PyProof.Rows.boot_set ?_)
  refine PyProof.Rows.callWith_type1 (PyProof.Rows.args_cons (thn (ha.run pins s σ H (fun v H1 => ∃ F1, Step F H F1 H1 ∧ Vw X.K F1 H1 v x) I ⟨F, ρ, x, R, ex, fun v F1 H1 s1 w1 => ⟨F1, s1, w1⟩⟩) fun v s1 ⟨y, H1, I1, r1, q1⟩ => PyProof.Rows.args_nil ?_) na) na rfl
  obtain ⟨F1, s1', w1⟩ := q1
  cases x with
  | list ds =>
    have e2 : ((intsOf ds).bind fun ns => gate (decide (ns.length ≤ 60)) (PyData.int (usort ns).length)) = some d := e2
    simp only [Option.bind_eq_some_iff] at e2
    obtain ⟨ns, h1, h2⟩ := e2
    obtain ⟨h3, h4⟩ := gate_some h2
    have h60 := dec_t h3
    subst h4
    obtain ⟨l, vs, rfl, hq, ra⟩ := w1.list s1'.in_
    cases r1
    obtain ⟨its, r, pl, hz⟩ := I1.list (.inl (.inl hq))
    obtain ⟨ev, _⟩ := ra.ints h1
    subst ev
    have hl : its.toArray.size = ns.length := by rw [List.size_toArray, ← r.length, List.length_map]
    refine call_set_list (I1.ok.hd hc) pl.isList (ns := ns) (by simpa using r.ints) (by unfold scanBound; omega) fun h' tk hS hk => ?_
    rw [hl, met_len ns] at hS
    refine PyProof.Rows.args_nil ?_
    obtain ⟨o, es, ep, t, ho, hex, hd, _, _, _, hf, hn⟩ := hS
    have I2 : Inv X pins σ H1 { s1 with heap := h', toks := tk } := I1.kept fun b o e => hk b o (Heap.lt_size e) e
    have hle : (usort ns).length ≤ ns.length := nodup_len _ _ (usort_ord.imp fun h => Int.ne_of_lt h) fun x hx => usort_mem.mp hx
    refine call_len_set ho hex hd hf (by rw [hn] <;> omega) ⟨.int (usort ns).length, H1, I2.tok _, ⟨_, by rw [hn]⟩, ?_⟩
    exact h _ _ _ s1' (post_own rfl (.int _))
  | _ => cases e2
end
end Q
set_option autoImplicit false
set_option linter.all false
set_option maxRecDepth 100000
set_option maxHeartbeats 8000000
namespace Q
open PySem PySem.Spec PyProof.Rows L2
section
variable {N : List Str} {isF : Sig} {Φ : Fns} {n : Nat}
theorem bi_ok {X : Cx} {k : Nat} {K : PySem.W.Frag} {F0 H0 : Hp} {Γ : List O} {f : Bf} {c : Expr} {p2 pos : Pos} {fa : Env → Option D} (g : Good X N isF Φ k) (hK : X.K = K) (h1 : f ≠ .sset) (h2 : f ≠ .lset) (hg : Gl X (bfName f)) (hs : noStar c = true) (ha : PE X c (tV K F0 H0 Γ fa)) :
    PE X (.Call (.Name (bfName f) p2) [c] [] pos) (tE K F0 H0 Γ .own fun ρ => (fa ρ).bind (biD f)) := by
  have u := g.u
  cases f with
  | len => exact q_biB hK fn_len hg (blt_of g _ (by decide +kernel)) (by decide +kernel) (by decide +kernel) (by decide +kernel) (star_cons hs) ha
  | abs => exact q_biB hK fn_abs hg (blt_of g _ (by decide +kernel)) (by decide +kernel) (by decide +kernel) (by decide +kernel) (star_cons hs) ha
  | int => exact q_biT hK fn_int hg (blt_of g _ (by decide +kernel)) (by decide +kernel) (by decide +kernel) (by decide +kernel) (star_cons hs) ha
  | str => exact q_biT hK fn_str hg (blt_of g _ (by decide +kernel)) (by decide +kernel) (by decide +kernel) (by decide +kernel) (star_cons hs) ha
  | list => exact q_biT hK fn_list hg (blt_of g _ (by decide +kernel)) (by decide +kernel) (by decide +kernel) (by decide +kernel) (star_cons hs) ha
  | tuple => exact q_biT hK fn_tuple hg (blt_of g _ (by decide +kernel)) (by decide +kernel) (by decide +kernel) (by decide +kernel) (star_cons hs) ha
  | sorted => exact q_biB hK (fn_sorted u) hg (blt_of g _ (by decide +kernel)) (by decide +kernel) (by decide +kernel) (by decide +kernel) (star_cons hs) ha
  | max => exact q_biB hK (fn_max g.calm) hg (blt_of g _ (by decide +kernel)) (by decide +kernel) (by decide +kernel) (by decide +kernel) (star_cons hs) ha
  | min => exact q_biB hK (fn_min g.calm) hg (blt_of g _ (by decide +kernel)) (by decide +kernel) (by decide +kernel) (by decide +kernel) (star_cons hs) ha
  | sum => exact q_biB hK (fn_sum g.calm) hg (blt_of g _ (by decide +kernel)) (by decide +kernel) (by decide +kernel) (by decide +kernel) (star_cons hs) ha
  | sset => exact absurd rfl h1
  | lset => exact absurd rfl h2
theorem if_some {b : Bool} {m m' : M} (h : (if b then some m else none) = some m') : b = true ∧ m = m' := by
  cases b with
  | true => exact ⟨rfl, Option.some.inj h⟩
  | false => cases h
def plainT : Expr → Bool
  | .UnaryOp _ _ _ => false
  | .BoolOp _ _ _ => false
  | .IfExp _ _ _ _ => false
  | .Compare _ _ _ _ => false
  | _ => true
theorem plainT_ok {e : Expr} {env : PySem.Env} (h : plainT e = true) (whole : Sem Value) : isTrue e env whole = (do let v ← whole; standAt e.pos; holding [v] (truthy v)) := by
  cases e <;> first | rfl | cases h
def cF (hc : Bool) (x : Option Bool) : Option Bool := match hc with
  | true => x
  | false => some true
set_option maxRecDepth 100000 in
theorem snd_ex (S : Snd N isF Φ n) : ∀ {sc : Scope} {e : Expr} {t : E}, mE N (n + 1) sc e t = true → ∀ {X : Cx} {k : Nat} {K : PySem.W.Frag} {F0 H0 : Hp} {Γ : List O} {m : M}, Good X N isF Φ k → X.env.scope = sc → X.K = K → md isF Γ t = some m → PE X e (tE K F0 H0 Γ m (ev Φ t)) := by
  intro sc e t h X k K F0 H0 Γ m g hs hK hm
  subst hs
  have u := g.u
  have hN := g.names
  cases t with
  | var i =>
    simp only [mE] at h
    split at h
    · obtain ⟨h1, h2⟩ := and_t h
      obtain ⟨h3, h4⟩ := and_t h2
      obtain ⟨d1, d2⟩ := plainN_ok h4
      have h1 := dec_t h1
      simp only [md] at hm
      split at hm
      · rename_i z
        cases hm
        exact q_var (o := .frz) (by rw [hN]; exact h1) (visB_ok h3) d1 d2 z (by decide)
      · rename_i z
        cases hm
        exact q_var (o := .own) (by rw [hN]; exact h1) (visB_ok h3) d1 d2 z (by decide)
      · cases hm
    · exact pe_one (S.ex h g rfl hK hm)
    · cases h
  | non =>
    simp only [mE] at h
    split at h
    · cases hm
      exact q_const pe_non fun _ => .non
    · cases h
  | bl b =>
    simp only [mE] at h
    split at h
    · have h := dec_t h
      subst h
      cases hm
      exact q_const pe_bl fun _ => .bl _
    · cases h
  | int i =>
    simp only [mE] at h
    split at h
    · have h := dec_t h
      subst h
      cases hm
      exact q_const pe_int fun _ => .int _
    · cases h
  | str x =>
    simp only [mE] at h
    split at h
    · have h := dec_t h
      subst h
      cases hm
      exact q_const pe_str fun _ => .str _
    · cases h
  | neg a =>
    simp only [mE] at h
    simp only [md, Option.map_eq_some_iff] at hm
    obtain ⟨m1, hm1, rfl⟩ := hm
    split at h
    · exact q_neg (PE.vw (S.ex h g rfl hK hm1))
    · cases h
  | bin o a b =>
    simp only [mE] at h
    obtain ⟨c1, rfl⟩ := if_some hm
    obtain ⟨c1, c2⟩ := and_t c1
    obtain ⟨m1, c1⟩ := some_of c1
    obtain ⟨m2, c2⟩ := some_of c2
    split at h
    · obtain ⟨h1, h2⟩ := and_t h
      obtain ⟨h3, h4⟩ := and_t h2
      have h1 := unB_ok (dec_t h1)
      subst h1
      exact q_bin hK o (PE.vw (S.ex h3 g rfl hK c1)) (PE.vw (S.ex h4 g rfl hK c2))
    · cases h
  | cmp o a b =>
    simp only [mE] at h
    split at h
    · obtain ⟨c1, rfl⟩ := if_some hm
      obtain ⟨c1, c2⟩ := and_t c1
      obtain ⟨m1, c1⟩ := some_of c1
      obtain ⟨m2, c2⟩ := some_of c2
      obtain ⟨h1, t_h2⟩ := and_t h
      obtain ⟨h2, h5⟩ := and_t t_h2
      obtain ⟨h3, h4⟩ := and_t h5
      have h1 := unC_ok (dec_t h1)
      subst h1
      exact q_cmp hK u o (not_t h2) (PE.vw (S.ex h3 g rfl hK c1)) (PE.vw (S.ex h4 g rfl hK c2))
    · exact pe_one (S.ex h g rfl hK hm)
    · cases h
  | chn o1 o2 a b c =>
    simp only [mE] at h
    split at h
    · obtain ⟨c1, rfl⟩ := if_some hm
      obtain ⟨c1, t_c2⟩ := and_t c1
      obtain ⟨c2, c3⟩ := and_t t_c2
      obtain ⟨m1, c1⟩ := some_of c1
      obtain ⟨m2, c2⟩ := some_of c2
      obtain ⟨m3, c3⟩ := some_of c3
      obtain ⟨h1, t_h2⟩ := and_t h
      obtain ⟨h2, t_h3⟩ := and_t t_h2
      obtain ⟨h3, t_h4⟩ := and_t t_h3
      obtain ⟨h4, t_h5⟩ := and_t t_h4
      obtain ⟨h5, h6⟩ := and_t t_h5
      have e1 := unC_ok (dec_t h1)
      have e2 := unC_ok (dec_t h2)
      subst e1 e2
      exact PE.ev (q_chn hK u o1 o2 (not_t h3) (PE.vw (S.ex h4 g rfl hK c1)) (PE.vw (S.ex h5 g rfl hK c2)) (PE.vw (S.ex h6 g rfl hK c3))) fun ρ => by
        simp only [ev] <;> rfl
    · exact pe_one (S.ex h g rfl hK hm)
    · cases h
  | isN a ng =>
    simp only [mE] at h
    split at h
    · simp only [md, Option.map_eq_some_iff] at hm
      obtain ⟨m1, hm1, rfl⟩ := hm
      obtain ⟨h1, h2⟩ := and_t h
      exact PE.ev (q_isN (PE.vw (S.ex h2 g rfl hK hm1)) ng (dec_t h1)) fun ρ => by simp only [ev] <;> rfl
    · exact pe_one (S.ex h g rfl hK hm)
    · cases h
  | isB a t ng =>
    simp only [mE] at h
    split at h
    · simp only [md, Option.map_eq_some_iff] at hm
      obtain ⟨m1, hm1, rfl⟩ := hm
      obtain ⟨h1, t_h2⟩ := and_t h
      obtain ⟨h2, h3⟩ := and_t t_h2
      have h2 := dec_t h2
      subst h2
      exact PE.ev (q_isB (PE.vw (S.ex h3 g rfl hK hm1)) t ng (dec_t h1)) fun ρ => by simp only [ev] <;> rfl
    · exact pe_one (S.ex h g rfl hK hm)
    · cases h
  | and a b =>
    simp only [mE] at h
    split at h
    · obtain ⟨c1, rfl⟩ := if_some hm
      obtain ⟨c1, c2⟩ := and_t c1
      obtain ⟨m1, c1, f1⟩ := frz_of c1
      obtain ⟨m2, c2, f2⟩ := frz_of c2
      obtain ⟨h1, h2⟩ := and_t h
      exact PE.ev (q_and hK (PE.fz f1 (S.ex h1 g rfl hK c1)) (PE.fz f2 (S.ex h2 g rfl hK c2))) fun ρ => by simp only [ev] <;> rfl
    · exact pe_one (S.ex h g rfl hK hm)
    · cases h
  | or a b =>
    simp only [mE] at h
    split at h
    · obtain ⟨c1, rfl⟩ := if_some hm
      obtain ⟨c1, c2⟩ := and_t c1
      obtain ⟨m1, c1, f1⟩ := frz_of c1
      obtain ⟨m2, c2, f2⟩ := frz_of c2
      obtain ⟨h1, h2⟩ := and_t h
      exact PE.ev (q_or hK (PE.fz f1 (S.ex h1 g rfl hK c1)) (PE.fz f2 (S.ex h2 g rfl hK c2))) fun ρ => by simp only [ev] <;> rfl
    · exact pe_one (S.ex h g rfl hK hm)
    · cases h
  | not a =>
    simp only [mE] at h
    split at h
    · simp only [md, Option.map_eq_some_iff] at hm
      obtain ⟨m1, hm1, rfl⟩ := hm
      exact q_not hK (PE.vw (S.ex h g rfl hK hm1))
    · exact pe_one (S.ex h g rfl hK hm)
    · cases h
  | ix a b =>
    simp only [mE] at h
    obtain ⟨c1, rfl⟩ := if_some hm
    obtain ⟨c1, c2⟩ := and_t c1
    obtain ⟨m1, c1⟩ := some_of c1
    obtain ⟨m2, c2⟩ := some_of c2
    split at h
    · obtain ⟨h1, h2⟩ := and_t h
      obtain ⟨h3, h4⟩ := and_t h2
      exact q_ix hK (by omega) (noSlice_ok h1) (PE.vw (S.ex h3 g rfl hK c1)) (PE.vw (S.ex h4 g rfl hK c2))
    · cases h
  | slu a b =>
    simp only [mE] at h
    obtain ⟨c1, rfl⟩ := if_some hm
    obtain ⟨c1, c2⟩ := and_t c1
    obtain ⟨m1, c1⟩ := some_of c1
    obtain ⟨m2, c2⟩ := some_of c2
    split at h
    · obtain ⟨h3, h4⟩ := and_t h
      exact PE.ev (q_slu hK (PE.vw (S.ex h3 g rfl hK c1)) (PE.vw (S.ex h4 g rfl hK c2))) fun ρ => by simp only [ev] <;> rfl
    · cases h
  | sll a b =>
    simp only [mE] at h
    obtain ⟨c1, rfl⟩ := if_some hm
    obtain ⟨c1, c2⟩ := and_t c1
    obtain ⟨m1, c1⟩ := some_of c1
    obtain ⟨m2, c2⟩ := some_of c2
    split at h
    · obtain ⟨h3, h4⟩ := and_t h
      exact PE.ev (q_sll hK (PE.vw (S.ex h3 g rfl hK c1)) (PE.vw (S.ex h4 g rfl hK c2))) fun ρ => by simp only [ev] <;> rfl
    · cases h
  | slb a b c =>
    simp only [mE] at h
    obtain ⟨c1, rfl⟩ := if_some hm
    obtain ⟨c1, t_c2⟩ := and_t c1
    obtain ⟨c2, c3⟩ := and_t t_c2
    obtain ⟨m1, c1⟩ := some_of c1
    obtain ⟨m2, c2⟩ := some_of c2
    obtain ⟨m3, c3⟩ := some_of c3
    split at h
    · obtain ⟨h3, h4⟩ := and_t h
      obtain ⟨h4, h5⟩ := and_t h4
      exact PE.ev (q_slb hK (PE.vw (S.ex h3 g rfl hK c1)) (PE.vw (S.ex h4 g rfl hK c2)) (PE.vw (S.ex h5 g rfl hK c3))) fun ρ => by simp only [ev] <;> rfl
    · cases h
  | rev a =>
    simp only [mE] at h
    simp only [md, Option.map_eq_some_iff] at hm
    obtain ⟨m1, hm1, rfl⟩ := hm
    split at h
    · obtain ⟨h1, h2⟩ := and_t h
      have h1 := dec_t h1
      subst h1
      exact q_rev hK (PE.vw (S.ex h2 g rfl hK hm1))
    · cases h
  | st2 a l =>
    simp only [mE] at h
    obtain ⟨c1, rfl⟩ := if_some hm
    obtain ⟨c1, c2⟩ := and_t c1
    obtain ⟨m1, c1⟩ := some_of c1
    obtain ⟨m2, c2⟩ := some_of c2
    split at h
    · obtain ⟨h1, h2⟩ := and_t h
      obtain ⟨h3, h4⟩ := and_t h2
      have h1 := dec_t h1
      subst h1
      exact PE.ev (q_st2 hK (PE.vw (S.ex h3 g rfl hK c1)) (PE.vw (S.ex h4 g rfl hK c2))) fun ρ => by simp only [ev] <;> rfl
    · cases h
  | tup es =>
    simp only [mE] at h
    obtain ⟨c1, rfl⟩ := if_some hm
    split at h
    · exact q_tup (S.lf h g rfl hK c1)
    · cases h
  | lst es =>
    simp only [mE] at h
    obtain ⟨c1, rfl⟩ := if_some hm
    split at h
    · exact q_lst (S.lf h g rfl hK c1)
    · cases h
  | dc0 =>
    simp only [mE] at h
    split at h
    · cases hm
      exact q_dc0
    · cases h
  | call cm gn es =>
    simp only [mE] at h
    split at h
    · rename_i x p2 xs pos
      obtain ⟨h1, t_h2⟩ := and_t h
      obtain ⟨h2, t_h3⟩ := and_t t_h2
      obtain ⟨h3, h4⟩ := and_t t_h3
      have h1 := dec_t h1
      subst h1
      obtain ⟨d1, d2⟩ := plainN_ok h3
      have hall := mL_star h4
      simp only [md] at hm
      split at hm
      · cases hm
      · rename_i np fr hf
        have F := g.fns _ _ _ hf
        cases cm with
        | frz =>
          obtain ⟨c1, rfl⟩ := if_some hm
          cases xs with
          | nil =>
            cases n with
            | zero => cases h4
            | succ n =>
              cases es with
              | nil => exact PE.ev (q_call0 hK g.room (glB_ok h2) d1 F) fun ρ => by simp [ev, evL]
              | cons a r => cases h4
          | cons a r =>
            obtain ⟨a1, a2⟩ := and_t (show (noStar a && r.all noStar) = true by simpa using hall)
            exact PE.ev (q_call hK g.room (glB_ok h2) d1 (star_cons a1) (star_any a2) F (S.lf h4 g rfl hK c1)) fun ρ => by simp only [ev]; cases evL Φ es ρ <;> simp
        | own =>
          obtain ⟨c0, rfl⟩ := if_some hm
          obtain ⟨c1, cf⟩ := and_t c0
          subst cf
          cases xs with
          | nil =>
            cases n with
            | zero => cases h4
            | succ n =>
              cases es with
              | nil => exact PE.ev (q_call0 hK g.room (glB_ok h2) d1 F) fun ρ => by simp [ev, evL]
              | cons a r => cases h4
          | cons a r =>
            obtain ⟨a1, a2⟩ := and_t (show (noStar a && r.all noStar) = true by simpa using hall)
            exact PE.ev (q_call hK g.room (glB_ok h2) d1 (star_cons a1) (star_any a2) F (S.lf h4 g rfl hK c1)) fun ρ => by simp only [ev]; cases evL Φ es ρ <;> simp
        | scal =>
          obtain ⟨c1, rfl⟩ := if_some hm
          cases xs with
          | nil =>
            cases n with
            | zero => cases h4
            | succ n =>
              cases es with
              | nil =>
                have q := PE.fz (m := if fr then .own else .frz) (by cases fr <;> rfl) (q_call0 (K := K) (F0 := F0) (H0 := H0) (Γ := Γ) (p2 := p2) (pos := pos) hK g.room (glB_ok h2) d1 F)
                refine PE.mono q fun σ H Q ⟨Fz, ρ, d, R, e1, qq⟩ => ⟨Fz, ρ, d, R, ?_, qq⟩
                simp only [ev, evL, Option.bind_some, Option.bind_eq_some_iff] at e1
                obtain ⟨d2, e2, e3⟩ := e1
                obtain ⟨_, rfl⟩ := gate_some e3
                exact e2
              | cons a r => cases h4
          | cons a r =>
            obtain ⟨a1, a2⟩ := and_t (show (noStar a && r.all noStar) = true by simpa using hall)
            exact PE.ev (q_callS hK g.room (glB_ok h2) d1 (star_cons a1) (star_any a2) F (S.lv h4 g rfl hK c1)) fun ρ => by simp only [ev]
    · exact pe_one (S.ex h g rfl hK hm)
    · cases h
  | bi f a =>
    obtain ⟨c1, rfl⟩ := if_some hm
    obtain ⟨m1, c1⟩ := some_of c1
    have key : ∀ (hf : f ≠ .sset ∧ f ≠ .lset) {x : Str} {p2 pos : Pos} {c : Expr}, x = bfName f → glB X.env.scope x = true → noStar c = true → mE N n X.env.scope c a = true → PE X (.Call (.Name x p2) [c] [] pos) (tE K F0 H0 Γ .own (ev Φ (.bi f a))) := by
      intro hf x p2 pos c hx hg hst hc
      subst hx
      exact bi_ok g hK hf.1 hf.2 (glB_ok hg) hst (PE.vw (S.ex hc g rfl hK c1))
    cases f with
    | sset =>
      simp only [mE] at h
      split at h
      · obtain ⟨h1, t2⟩ := and_t h
        obtain ⟨h2, t3⟩ := and_t t2
        obtain ⟨h3, t4⟩ := and_t t3
        obtain ⟨h4, t5⟩ := and_t t4
        obtain ⟨h5, h6⟩ := and_t t5
        have h1 := dec_t h1
        have h3 := dec_t h3
        subst h1 h3
        exact PE.ev (q_sset hK u g.calm (glB_ok h2) (blt_of g _ (by decide +kernel)) (glB_ok h4) (blt_of g _ (by decide +kernel)) (star_cons h5) (PE.vw (S.ex h6 g rfl hK c1))) fun ρ => by simp only [ev]
      · cases h
    | lset =>
      simp only [mE] at h
      split at h
      · obtain ⟨h1, t2⟩ := and_t h
        obtain ⟨h2, t3⟩ := and_t t2
        obtain ⟨h3, t4⟩ := and_t t3
        obtain ⟨h4, t5⟩ := and_t t4
        obtain ⟨h5, h6⟩ := and_t t5
        have h1 := dec_t h1
        have h3 := dec_t h3
        subst h1 h3
        exact PE.ev (q_lset hK g.calm (glB_ok h2) (blt_of g _ (by decide +kernel)) (glB_ok h4) (blt_of g _ (by decide +kernel)) (star_cons h5) (PE.vw (S.ex h6 g rfl hK c1))) fun ρ => by simp only [ev]
      · cases h
    | list =>
      simp only [mE] at h
      split at h
      · rename_i x p2 c pos
        obtain ⟨h1, t_h2⟩ := and_t h
        obtain ⟨h2, t_h3⟩ := and_t t_h2
        obtain ⟨h3, h4⟩ := and_t t_h3
        have h1 := dec_t h1
        split at h4
        · rename_i y p3 d pos3 a1
          obtain ⟨i1, t_i2⟩ := and_t h4
          obtain ⟨i2, t_i3⟩ := and_t t_i2
          obtain ⟨i3, i4⟩ := and_t t_i3
          have i1 := dec_t i1
          subst i1 h1
          simp only [md, Option.map_eq_some_iff] at c1
          obtain ⟨m2, c2, _⟩ := c1
          exact PE.ev (q_listRg1 g.calm (glB_ok h2) (blt_of g _ (by decide +kernel)) (glB_ok i2) (blt_of g _ (by decide +kernel)) (star_cons i3) (star_cons h3) (PE.vw (S.ex i4 g rfl hK c2))) fun ρ => by simp only [ev] <;> rfl
        · rename_i y p3 d d2 pos3 a1 a2
          obtain ⟨i1, t_i2⟩ := and_t h4
          obtain ⟨i2, t_i3⟩ := and_t t_i2
          obtain ⟨i3, t_i4⟩ := and_t t_i3
          obtain ⟨i4, t_i5⟩ := and_t t_i4
          obtain ⟨i5, i6⟩ := and_t t_i5
          have i1 := dec_t i1
          subst i1 h1
          obtain ⟨c2, _⟩ := if_some c1
          obtain ⟨c2, c3⟩ := and_t c2
          obtain ⟨m2, c2⟩ := some_of c2
          obtain ⟨m3, c3⟩ := some_of c3
          exact PE.ev (q_listRg2 g.calm (glB_ok h2) (blt_of g _ (by decide +kernel)) (glB_ok i2) (blt_of g _ (by decide +kernel)) (star_cons i3) (star_cons i4) (by rw [star_cons i4]; rfl) (star_cons h3) (PE.vw (S.ex i5 g rfl hK c2)) (PE.vw (S.ex i6 g rfl hK c3))) fun ρ => by simp only [ev] <;> rfl
        · exact key (by decide) h1 h2 h3 h4
      · cases h
    | _ =>
      simp only [mE] at h
      split at h
      · obtain ⟨h1, h2⟩ := and_t h
        obtain ⟨h2, t_h3⟩ := and_t h2
        obtain ⟨h3, h4⟩ := and_t t_h3
        exact key (by decide) (dec_t h1) h2 h3 h4
      · cases h
  | isi a ts =>
    simp only [mE] at h
    split at h
    · rename_i x p2 c d pos
      simp only [md, Option.map_eq_some_iff] at hm
      obtain ⟨m1, hm1, rfl⟩ := hm
      obtain ⟨h1, t_h2⟩ := and_t h
      obtain ⟨h2, t_h3⟩ := and_t t_h2
      obtain ⟨h3, t_h4⟩ := and_t t_h3
      obtain ⟨h4, t_h5⟩ := and_t t_h4
      obtain ⟨h5, h6⟩ := and_t t_h5
      have h1 := dec_t h1
      subst h1
      have hty : ∀ t ∈ ts, Gl X (Str.ofString (tyN t)) ∧ X.mg (Str.ofString (tyN t)) = none := fun t ht => ⟨glB_ok (List.all_eq_true.mp h5 t ht), by cases t <;> exact blt_of g _ (by decide +kernel)⟩
      split at h6
      · obtain ⟨i1, i2⟩ := and_t h6
        exact PE.ev (q_isN' hK (glB_ok h2) (blt_of g _ (by decide +kernel)) hty (tysOf_ok (dec_t i1)) (dec_t i2) (star_cons h3) (PE.vw (S.ex h4 g rfl hK hm1))) fun ρ => by simp only [ev] <;> rfl
      · split at h6
        · obtain ⟨p, rfl⟩ := tyOf_ok (dec_t h6)
          obtain ⟨t1, t2⟩ := hty _ List.mem_cons_self
          exact PE.ev (q_is1 hK (glB_ok h2) (blt_of g _ (by decide +kernel)) t1 t2 (star_cons h3) (PE.vw (S.ex h4 g rfl hK hm1))) fun ρ => by simp only [ev] <;> rfl
        · cases h6
    · exact pe_one (S.ex h g rfl hK hm)
    · cases h
  | mth mt a b =>
    cases mt with
    | index =>
      simp only [mE] at h
      obtain ⟨c1, rfl⟩ := if_some hm
      obtain ⟨c1, c2⟩ := and_t c1
      obtain ⟨m1, c1⟩ := some_of c1
      obtain ⟨m2, c2⟩ := some_of c2
      split at h
      · obtain ⟨h1, h2⟩ := and_t h
        obtain ⟨h2, t_h3⟩ := and_t h2
        obtain ⟨h3, t_h4⟩ := and_t t_h3
        obtain ⟨h4, t_h5⟩ := and_t t_h4
        obtain ⟨h5, h6⟩ := and_t t_h5
        have h1 := dec_t h1
        subst h1
        exact PE.ev (q_index hK u (baseOk_ok h2) h3 (star_cons h4) (PE.vw (S.ex h5 g rfl hK c1)) (PE.vw (S.ex h6 g rfl hK c2))) fun ρ => by simp only [ev] <;> rfl
      · cases h
  | lc own p it hc c el =>
    simp only [mE] at h
    obtain ⟨c1, rfl⟩ := if_some hm
    obtain ⟨c1, t_c2⟩ := and_t c1
    obtain ⟨c2, c3⟩ := and_t t_c2
    obtain ⟨m1, c1⟩ := some_of c1
    obtain ⟨m3, c3, f3⟩ := frz_of c3
    split at h
    · rename_i elt tg iter ifs scope pos
      obtain ⟨h1, t_h2⟩ := and_t h
      obtain ⟨h2, t_h3⟩ := and_t t_h2
      obtain ⟨h3, t_h4⟩ := and_t t_h3
      obtain ⟨h4, t_h5⟩ := and_t t_h4
      obtain ⟨h5, t_h6⟩ := and_t t_h5
      obtain ⟨h6, h7⟩ := and_t t_h6
      have hown : (own.map fun i => (N.getD i (Str.ofString ""), i)).map (·.2) = own := by rw [List.map_map]; simp [Function.comp_def]
      have hp : ∀ i ∈ psl p, i ∈ (own.map fun i => (N.getD i (Str.ofString ""), i)).map (·.2) := fun i hi => by
        rw [hown]
        simpa using List.all_eq_true.mp h2 i hi
      have okb : BlkOk X.N X.env.scope scope (own.map fun i => (N.getD i (Str.ofString ""), i)) := by rw [hN]; exact blkOk_by h1
      have pe : ∀ (s : Shared) (H : Hp) (C : Addr) (cl : List (Str × Addr)) (fp : List Addr), PE (X.blk s H scope (compEnvC scope cl C X.env) fp) elt (tE K F0 H0 (setG Γ (psl p)) .frz (ev Φ el)) := fun s H C cl fp =>
        PE.fz f3 (S.ex h7 (g.blk s H scope _ fp) rfl hK c3)
      have fin : ∀ {fc : Env → Option Bool} {tt : TT}, (∀ (s : Shared) (H : Hp) (C : Addr) (cl : List (Str × Addr)) (fp : List Addr), PTs (X.blk s H scope (compEnvC scope cl C X.env) fp) ifs tt) → (∀ σ H Q, tB' K F0 H0 (setG Γ (psl p)) fc σ H Q → tt σ H Q) →
          (∀ ρ1, fc ρ1 = cF hc ((ev Φ c ρ1).bind tru)) → PE X (.ListComp elt [⟨tg, iter, ifs, 0⟩] scope pos) (tE K F0 H0 Γ .own (ev Φ (.lc own p it hc c el))) := by
        intro fc tt ht htt hfc
        refine PE.ev (q_lc g.calm g.nd (S.it h5 g rfl hK c1) okb hp (pg_blk g hK h3) ht htt pe (noSet_ok h4)) fun ρ => ?_
        simp only [ev]
        rw [hown]
        have hfc2 : fc = fun ρ1 => cF hc ((ev Φ c ρ1).bind tru) := funext hfc
        rw [hfc2]
        cases hc <;> rfl
      split at h6
      · exact fin (fun _ _ _ _ _ => pts_nil) (fun σ H Q ⟨F, ρ, b, R, e1, q⟩ => by
          have e1 : some true = some b := e1
          cases e1
          exact q F H (.refl R.in_)) fun _ => rfl
      · have c2 : (md isF (setG Γ (psl p)) c).isSome = true := by simpa using c2
        obtain ⟨m2, c2⟩ := some_of c2
        exact fin (fun s H C cl fp => pts_one (S.ts h6 (g.blk s H scope _ fp) rfl hK c2).1) (fun _ _ _ z => z) fun _ => rfl
      · cases h6
    · cases h
  | dc own p it kx vx =>
    simp only [mE] at h
    obtain ⟨c1, rfl⟩ := if_some hm
    obtain ⟨c1, t_c2⟩ := and_t c1
    obtain ⟨c2, c3⟩ := and_t t_c2
    obtain ⟨m1, c1⟩ := some_of c1
    obtain ⟨m2, c2⟩ := some_of c2
    obtain ⟨m3, c3, f3⟩ := frz_of c3
    split at h
    · rename_i ek ev_ tg iter scope pos
      obtain ⟨h1, t_h2⟩ := and_t h
      obtain ⟨h2, t_h3⟩ := and_t t_h2
      obtain ⟨h3, t_h4⟩ := and_t t_h3
      obtain ⟨h4, t_h5⟩ := and_t t_h4
      obtain ⟨h5, t_h6⟩ := and_t t_h5
      obtain ⟨h6, h7⟩ := and_t t_h6
      have hown : (own.map fun i => (N.getD i (Str.ofString ""), i)).map (·.2) = own := by rw [List.map_map]; simp [Function.comp_def]
      have hp : ∀ i ∈ psl p, i ∈ (own.map fun i => (N.getD i (Str.ofString ""), i)).map (·.2) := fun i hi => by
        rw [hown]
        simpa using List.all_eq_true.mp h2 i hi
      have okb : BlkOk X.N X.env.scope scope (own.map fun i => (N.getD i (Str.ofString ""), i)) := by rw [hN]; exact blkOk_by h1
      refine PE.ev (q_dc g.calm g.nd (S.it h5 g rfl hK c1) okb hp (pg_blk g hK h3) (fun s H C cl fp => PE.vw (S.ex h6 (g.blk s H scope _ fp) rfl hK c2)) (fun s H C cl fp => PE.fz f3 (S.ex h7 (g.blk s H scope _ fp) rfl hK c3)) (noSet_ok h4)) fun ρ => ?_
      simp only [ev]
      rw [hown]
      rfl
    · cases h
  | rng1 a => simp only [mE] at h; cases h
  | rng2 a b => simp only [mE] at h; cases h
end
end Q
set_option autoImplicit false
set_option linter.all false
set_option maxRecDepth 100000
set_option maxHeartbeats 8000000
namespace Q
open PySem PySem.Spec PyProof.Rows L2
section
variable {X : Cx} {K : PySem.W.Frag} {F0 H0 : Hp} {Γ : List O} {a b : Expr} {fa : Env → Option D} {pos : Pos}
theorem isNon {F H : Hp} {v : V} {d : D} (w : Vw K F H v d) : decide (v = .non) = (match d with | .none => true | _ => false) := by
  cases w with
  | rp r => cases r <;> simp [scrD]
  | lst _ _ => simp
  | dct _ _ => simp
theorem q_isNT {j : Nat} {pos' : Pos} (ha : PE X a (tV K F0 H0 Γ fa)) (ng : Bool) {op : CmpOp} (hop : op = if ng then .IsNot else .Is) :
    PT X (.Compare a [op] [.Constant .none j pos'] pos) (tB' K F0 H0 Γ fun ρ => (fa ρ).map fun
      | .none => !ng
      | _ => ng) := by
  subst hop
  cases ng with
  | false =>
    refine PT.mono (pt_cmp (pc_isN ha) (by cases a <;> rfl)) fun σ H Q ⟨F, ρ, d, R, e1, q⟩ => ?_
    simp only [Option.map_eq_some_iff] at e1
    obtain ⟨x, ex, e2⟩ := e1
    refine ⟨F, ρ, x, R, ex, fun v F1 H1 s1 w1 => ⟨d, ?_, q F1 H1 s1⟩⟩
    rw [isNon w1, ← e2]; cases x <;> rfl
  | true =>
    refine PT.mono (pt_cmp (pc_notN ha) (by cases a <;> rfl)) fun σ H Q ⟨F, ρ, d, R, e1, q⟩ => ?_
    simp only [Option.map_eq_some_iff] at e1
    obtain ⟨x, ex, e2⟩ := e1
    refine ⟨F, ρ, x, R, ex, fun v F1 H1 s1 w1 => ⟨d, ?_, q F1 H1 s1⟩⟩
    rw [isNon w1, ← e2]; cases x <;> rfl
theorem q_isBT {j : Nat} {pos' : Pos} (ha : PE X a (tV K F0 H0 Γ fa)) (t ng : Bool) {op : CmpOp} (hop : op = if ng then .IsNot else .Is) :
    PT X (.Compare a [op] [.Constant (.bool t) j pos'] pos) (tB' K F0 H0 Γ fun ρ => (fa ρ).bind fun
      | .bool b => some ((b == t) != ng)
      | _ => none) := by
  subst hop
  have dt : ∀ b : Bool, decide (b = t) = (b == t) := fun b => by cases b <;> cases t <;> rfl
  cases ng with
  | false =>
    refine PT.mono (pt_cmpR op_isBl ha pe_bl (by rfl)) fun σ H Q ⟨F, ρ, d, R, e1, q⟩ => ?_
    simp only [Option.bind_eq_some_iff] at e1
    obtain ⟨x, ex, e2⟩ := e1
    refine ⟨F, ρ, x, R, ex, fun v F1 H1 s1 w1 => ?_⟩
    cases x with
    | bool b =>
      have := w1.bool
      subst this
      cases e2
      refine ⟨b, t, rfl, rfl, _, rfl, ?_⟩
      rw [dt]
      have z : (b == t) = ((b == t) != false) := by cases (b == t) <;> rfl
      rw [z]
      exact q F1 H1 s1
    | _ => cases e2
  | true =>
    refine PT.mono (pt_cmpR op_notBl ha pe_bl (by rfl)) fun σ H Q ⟨F, ρ, d, R, e1, q⟩ => ?_
    simp only [Option.bind_eq_some_iff] at e1
    obtain ⟨x, ex, e2⟩ := e1
    refine ⟨F, ρ, x, R, ex, fun v F1 H1 s1 w1 => ?_⟩
    cases x with
    | bool b =>
      have := w1.bool
      subst this
      cases e2
      refine ⟨b, t, rfl, rfl, _, rfl, ?_⟩
      rw [dt]
      have z : (!(b == t)) = ((b == t) != true) := by cases (b == t) <;> rfl
      rw [z]
      exact q F1 H1 s1
    | _ => cases e2
end
section
variable {N : List Str} {isF : Sig} {Φ : Fns} {n : Nat}
theorem snd_ts (S : Snd N isF Φ n) : ∀ {sc : Scope} {e : Expr} {t : E}, mE N (n + 1) sc e t = true → ∀ {X : Cx} {k : Nat} {K : PySem.W.Frag} {F0 H0 : Hp} {Γ : List O} {m : M}, Good X N isF Φ k → X.env.scope = sc → X.K = K → md isF Γ t = some m →
    PT X e (tB' K F0 H0 Γ fun ρ => (ev Φ t ρ).bind tru) ∧ ∀ op vs pos, e = .BoolOp op vs pos → PW X e (tB' K F0 H0 Γ fun ρ => (ev Φ t ρ).bind tru) := by
  intro sc e t h X k K F0 H0 Γ m g hs hK hm
  have plain : plainT e = true → PT X e (tB' K F0 H0 Γ fun ρ => (ev Φ t ρ).bind tru) ∧ ∀ op vs pos, e = .BoolOp op vs pos → PW X e (tB' K F0 H0 Γ fun ρ => (ev Φ t ρ).bind tru) := fun hp =>
    ⟨q_tru hK (PE.vw (snd_ex S h g hs hK hm)) (plainT_ok hp), fun op vs pos he => by subst he; cases hp⟩
  have u := g.u
  subst hs
  cases e with
  | IfExp c x y pos => cases t <;> first | (simp [mE] at h; done) | (rename_i f _; cases f <;> simp [mE] at h; done) | (rename_i f _ _; cases f <;> simp [mE] at h; done)
  | UnaryOp op b pos =>
    refine ⟨?_, fun op vs pos he => by cases he⟩
    cases t with
    | neg a => exact q_tru hK (PE.vw (snd_ex S h g rfl hK hm)) (by cases op <;> first | (intro w; rfl) | (simp [mE] at h))
    | not a =>
      simp only [mE] at h
      split at h
      · rename_i z
        cases z
        simp only [md, Option.map_eq_some_iff] at hm
        obtain ⟨m1, hm1, rfl⟩ := hm
        refine PT.imp (q_notT (S.ts h g rfl hK hm1).1) fun ρ bb e1 => ?_
        simp only [ev] at e1
        revert e1
        cases hx : ev Φ a ρ with
        | none => intro e1; cases e1
        | some x =>
          intro e1
          simp only [Option.bind_some] at e1 ⊢
          cases hy : tru x with
          | none => rw [hy] at e1; cases e1
          | some y => rw [hy] at e1; exact e1
      · rename_i z; cases z
      · cases h
    | bi f x => cases f <;> simp [mE] at h
    | mth mt x y => cases mt; simp [mE] at h
    | _ => simp [mE] at h
  | Compare l ops rs pos =>
    refine ⟨?_, fun op vs pos he => by cases he⟩
    cases t with
    | cmp o a b =>
      simp only [mE] at h
      split at h
      · rename_i z
        cases z
        obtain ⟨c1, rfl⟩ := if_some hm
        obtain ⟨c1, c2⟩ := and_t c1
        obtain ⟨m1, c1⟩ := some_of c1
        obtain ⟨m2, c2⟩ := some_of c2
        obtain ⟨h1, t_h2⟩ := and_t h
        obtain ⟨h2, h5⟩ := and_t t_h2
        obtain ⟨h3, h4⟩ := and_t h5
        have h1 := unC_ok (dec_t h1)
        subst h1
        refine PT.imp (q_cmpT hK u o (not_t h2) (PE.vw (S.ex h3 g rfl hK c1)) (PE.vw (S.ex h4 g rfl hK c2))) fun ρ bb e1 => ?_
        simp only [ev, Option.bind_eq_some_iff, Option.map_eq_some_iff] at e1 ⊢
        obtain ⟨_, ⟨x, ex, y, ey, q, eq, rfl⟩, e2⟩ := e1
        cases e2
        exact ⟨x, ex, y, ey, eq⟩
      · rename_i z; cases z
      · cases h
    | chn o1 o2 a b c =>
      simp only [mE] at h
      split at h
      · rename_i z
        cases z
        obtain ⟨c1, rfl⟩ := if_some hm
        obtain ⟨c1, t_c2⟩ := and_t c1
        obtain ⟨c2, c3⟩ := and_t t_c2
        obtain ⟨m1, c1⟩ := some_of c1
        obtain ⟨m2, c2⟩ := some_of c2
        obtain ⟨m3, c3⟩ := some_of c3
        obtain ⟨h1, t_h2⟩ := and_t h
        obtain ⟨h2, t_h3⟩ := and_t t_h2
        obtain ⟨h3, t_h4⟩ := and_t t_h3
        obtain ⟨h4, t_h5⟩ := and_t t_h4
        obtain ⟨h5, h6⟩ := and_t t_h5
        have h1 := unC_ok (dec_t h1)
        subst h1
        have h2 := unC_ok (dec_t h2)
        subst h2
        refine PT.imp (q_chnT hK u o1 o2 (not_t h3) (PE.vw (S.ex h4 g rfl hK c1)) (PE.vw (S.ex h5 g rfl hK c2)) (PE.vw (S.ex h6 g rfl hK c3))) fun ρ bb e1 => ?_
        simp only [ev, Option.bind_eq_some_iff] at e1 ⊢
        obtain ⟨dd, ⟨x, ex, y, ey, q, eq, e3⟩, e2⟩ := e1
        refine ⟨x, ex, y, ey, q, eq, ?_⟩
        cases q with
        | false => cases e3; exact e2
        | true =>
          simp only [Option.bind_eq_some_iff, Option.map_eq_some_iff] at e3 ⊢
          obtain ⟨z, ez, w, ew, rfl⟩ := e3
          cases e2
          exact ⟨z, ez, ew⟩
      · rename_i z; cases z
      · cases h
    | isN a ng =>
      simp only [mE] at h
      split at h
      · rename_i z
        cases z
        simp only [md, Option.map_eq_some_iff] at hm
        obtain ⟨m1, hm1, rfl⟩ := hm
        obtain ⟨h1, h2⟩ := and_t h
        refine PT.imp (q_isNT (PE.vw (S.ex h2 g rfl hK hm1)) ng (dec_t h1)) fun ρ bb e1 => ?_
        simp only [ev, Option.bind_eq_some_iff, Option.map_eq_some_iff] at e1 ⊢
        obtain ⟨dd, ⟨x, ex, e3⟩, e2⟩ := e1
        refine ⟨x, ex, ?_⟩
        subst e3
        cases x <;> exact Option.some.inj e2
      · rename_i z; cases z
      · cases h
    | isB a t ng =>
      simp only [mE] at h
      split at h
      · rename_i z
        cases z
        simp only [md, Option.map_eq_some_iff] at hm
        obtain ⟨m1, hm1, rfl⟩ := hm
        obtain ⟨h1, t_h2⟩ := and_t h
        obtain ⟨h2, h3⟩ := and_t t_h2
        have h2 := dec_t h2
        subst h2
        refine PT.imp (q_isBT (PE.vw (S.ex h3 g rfl hK hm1)) t ng (dec_t h1)) fun ρ bb e1 => ?_
        simp only [ev, Option.bind_eq_some_iff] at e1 ⊢
        obtain ⟨dd, ⟨x, ex, e3⟩, e2⟩ := e1
        refine ⟨x, ex, ?_⟩
        cases x with
        | bool w => cases e3; exact e2
        | _ => cases e3
      · rename_i z; cases z
      · cases h
    | bi f x => cases f <;> simp [mE] at h
    | mth mt x y => cases mt; simp [mE] at h
    | _ => simp [mE] at h
  | BoolOp op vs pos =>
    have one : ∀ c, vs = [c] → mE N n X.env.scope c t = true → PT X (.BoolOp op vs pos) (tB' K F0 H0 Γ fun ρ => (ev Φ t ρ).bind tru) ∧ ∀ op' vs' pos', Expr.BoolOp op vs pos = .BoolOp op' vs' pos' → PW X (.BoolOp op vs pos) (tB' K F0 H0 Γ fun ρ => (ev Φ t ρ).bind tru) := by
      intro c hc h2
      subst hc
      have q := (S.ts h2 g rfl hK hm (F0 := F0) (H0 := H0)).1
      have w : PW X (.BoolOp op [c] pos) (tB' K F0 H0 Γ fun ρ => (ev Φ t ρ).bind tru) := by
        cases op with
        | And => exact pw_and1 q
        | Or => exact pw_or1 q
      exact ⟨w.pt, fun _ _ _ _ => w⟩
    cases t with
    | and a b =>
      simp only [mE] at h
      split at h
      · rename_i z
        cases z
        obtain ⟨c1, rfl⟩ := if_some hm
        obtain ⟨c1, c2⟩ := and_t c1
        obtain ⟨m1, c1, f1⟩ := frz_of c1
        obtain ⟨m2, c2, f2⟩ := frz_of c2
        obtain ⟨h1, h2⟩ := and_t h
        have w := PW.imp (f' := fun ρ => (ev Φ (.and a b) ρ).bind tru) (q_andT (pos := pos) (S.ts h1 g rfl hK c1 (F0 := F0) (H0 := H0)).1 ((S.ts h2 g rfl hK c2 (F0 := F0) (H0 := H0)).2 _ _ _ rfl)) fun ρ bb e1 => by
          simp only [ev, Option.bind_eq_some_iff] at e1 ⊢
          obtain ⟨dd, ⟨x, ex, q, eq, e3⟩, e2⟩ := e1
          refine ⟨q, ⟨x, ex, eq⟩, ?_⟩
          cases q with
          | true => simp only [Option.bind_eq_some_iff]; exact ⟨dd, e3, e2⟩
          | false => cases e3; rw [eq] at e2; exact e2
        exact ⟨w.pt, fun _ _ _ _ => w⟩
      · rename_i z; cases z; exact one _ rfl h
      · cases h
    | or a b =>
      simp only [mE] at h
      split at h
      · rename_i z
        cases z
        obtain ⟨c1, rfl⟩ := if_some hm
        obtain ⟨c1, c2⟩ := and_t c1
        obtain ⟨m1, c1, f1⟩ := frz_of c1
        obtain ⟨m2, c2, f2⟩ := frz_of c2
        obtain ⟨h1, h2⟩ := and_t h
        have w := PW.imp (f' := fun ρ => (ev Φ (.or a b) ρ).bind tru) (q_orT (pos := pos) (S.ts h1 g rfl hK c1 (F0 := F0) (H0 := H0)).1 ((S.ts h2 g rfl hK c2 (F0 := F0) (H0 := H0)).2 _ _ _ rfl)) fun ρ bb e1 => by
          simp only [ev, Option.bind_eq_some_iff] at e1 ⊢
          obtain ⟨dd, ⟨x, ex, q, eq, e3⟩, e2⟩ := e1
          refine ⟨q, ⟨x, ex, eq⟩, ?_⟩
          cases q with
          | false => simp only [Option.bind_eq_some_iff]; exact ⟨dd, e3, e2⟩
          | true => cases e3; rw [eq] at e2; exact e2
        exact ⟨w.pt, fun _ _ _ _ => w⟩
      · rename_i z; cases z; exact one _ rfl h
      · cases h
    | var i =>
      simp only [mE] at h
      split at h
      · rename_i z; cases z
      · rename_i z; cases z; exact one _ rfl h
      · cases h
    | cmp o a b =>
      simp only [mE] at h
      split at h
      · rename_i z; cases z
      · rename_i z; cases z; exact one _ rfl h
      · cases h
    | chn o1 o2 a b c =>
      simp only [mE] at h
      split at h
      · rename_i z; cases z
      · rename_i z; cases z; exact one _ rfl h
      · cases h
    | isN a ng =>
      simp only [mE] at h
      split at h
      · rename_i z; cases z
      · rename_i z; cases z; exact one _ rfl h
      · cases h
    | isB a t ng =>
      simp only [mE] at h
      split at h
      · rename_i z; cases z
      · rename_i z; cases z; exact one _ rfl h
      · cases h
    | not a =>
      simp only [mE] at h
      split at h
      · rename_i z; cases z
      · rename_i z; cases z; exact one _ rfl h
      · cases h
    | call cm gn es =>
      simp only [mE] at h
      split at h
      · rename_i z; cases z
      · rename_i z; cases z; exact one _ rfl h
      · cases h
    | isi a ts =>
      simp only [mE] at h
      split at h
      · rename_i z; cases z
      · rename_i z; cases z; exact one _ rfl h
      · cases h
    | bi f x => cases f <;> simp [mE] at h
    | mth mt x y => cases mt; simp [mE] at h
    | _ => simp [mE] at h
  | _ => exact plain rfl
theorem snd (N : List Str) (isF : Sig) (Φ : Fns) : ∀ n, Snd N isF Φ n
  | 0 => by
    constructor
    · intro sc e t h; cases h
    · intro sc e t h; cases h
    · intro sc e t h; cases h
    · intro sc e t h; cases h
    · intro sc e t h; cases h
  | n + 1 => ⟨snd_ex (snd N isF Φ n), snd_ts (snd N isF Φ n), snd_lf (snd N isF Φ n), snd_lv (snd N isF Φ n), snd_it (snd N isF Φ n)⟩
end
end Q
set_option autoImplicit false
set_option linter.all false
set_option maxRecDepth 100000
set_option maxHeartbeats 8000000
namespace Q
open PySem PySem.Spec PyProof.Rows L2
section
variable {K : PySem.W.Frag} {F0 H0 : Hp} {Γ : List O} {F H : Hp} {ρ : Env} {σ : L2.St}
def leO : List O → List O → Bool
  | [], _ => true
  | .dead :: r, Γ => leO r Γ.tail
  | .frz :: r, .frz :: Γ => leO r Γ
  | .own :: r, .own :: Γ => leO r Γ
  | _ :: _, _ => false
theorem leO_get : ∀ {Γ' Γ : List O} {i : Nat} {o : O}, leO Γ' Γ = true → Γ'[i]? = some o → o = .dead ∨ Γ[i]? = some o := by
  intro Γ'
  induction Γ' with
  | nil => intro Γ i o _ e; simp at e
  | cons a r ih =>
    intro Γ i o h e
    cases a with
    | dead =>
      cases i with
      | zero => simp at e; exact .inl e.symm
      | succ i =>
        have h : leO r Γ.tail = true := h
        rcases ih h (i := i) (o := o) (by simpa using e) with z | z
        · exact .inl z
        · cases Γ with
          | nil => simp at z
          | cons b Γ => exact .inr (by simpa using z)
    | frz =>
      cases Γ with
      | nil => cases h
      | cons b Γ =>
        cases b with
        | frz =>
          cases i with
          | zero => simp at e ⊢; exact .inr e
          | succ i => rcases ih (show leO r Γ = true from h) (i := i) (o := o) (by simpa using e) with z | z
                      · exact .inl z
                      · exact .inr (by simpa using z)
        | _ => cases h
    | own =>
      cases Γ with
      | nil => cases h
      | cons b Γ =>
        cases b with
        | own =>
          cases i with
          | zero => simp at e ⊢; exact .inr e
          | succ i => rcases ih (show leO r Γ = true from h) (i := i) (o := o) (by simpa using e) with z | z
                      · exact .inl z
                      · exact .inr (by simpa using z)
        | _ => cases h
theorem Rel.weak {Γ' : List O} (h : leO Γ' Γ = true) (R : Rel K F0 H0 Γ F H ρ σ) : Rel K F0 H0 Γ' F H ρ σ where
  in_ := R.in_
  same := R.same
  sub := R.sub
  new := R.new
  slot := fun i d o e1 e2 => by
    rcases leO_get h e2 with rfl | e3
    · have hl : i < σ.length := by rw [← R.len]; exact (List.getElem?_eq_some_iff.mp e1).1
      exact ⟨σ[i], by simp [hl], trivial⟩
    · exact R.slot i d o e1 e3
  apart := fun i j d e p hn e1 e2 => by
    rcases leO_get h e1 with z | e1
    · cases z
    · rcases leO_get h e2 with z | e2
      · cases z
      · exact R.apart i j d e p hn e1 e2
  len := R.len
theorem Rel.setOwn (R : Rel K F0 H0 Γ F H ρ σ) {i : Nat} {v : V} {d : D} (r : OwV K F H v d) (hn : ∀ p, v = .ref p → cont d = true → H0 p = none)
    (hap : ∀ (j : Nat) (e : D) (p : Addr), j ≠ i → Γ[j]? = some .own → ρ[j]? = some (some e) → cont e = true → σ[j]? = some (some (.ref p)) → v = .ref p → cont d = true → False) :
    Rel K F0 H0 (Γ.set i .own) F H (ρ.set i (some d)) (σ.set i (some v)) where
  in_ := R.in_
  same := R.same
  sub := R.sub
  new := R.new
  slot := fun j e o e1 e2 => by
    by_cases hj : i = j
    · subst hj
      have hl : i < ρ.length := by
        have := (List.getElem?_eq_some_iff.mp e1).1
        simpa using this
      have hg : i < Γ.length := by
        have := (List.getElem?_eq_some_iff.mp e2).1
        simpa using this
      rw [List.getElem?_set_self hl] at e1
      rw [List.getElem?_set_self hg] at e2
      cases e1
      cases e2
      exact ⟨some v, List.getElem?_set_self (by rw [← R.len]; exact hl), v, rfl, r, hn⟩
    · rw [List.getElem?_set_ne hj] at e1 e2 ⊢
      exact R.slot j e o e1 e2
  apart := fun j k d1 d2 p hne e1 e2 e3 e4 c1 c2 s1 s2 => by
    have key : ∀ (m : Nat) (e : D), m ≠ i → (Γ.set i .own)[m]? = some .own → (ρ.set i (some d))[m]? = some (some e) → cont e = true → (σ.set i (some v))[m]? = some (some (.ref p)) → v = .ref p → cont d = true → False := fun m e hm g1 g2 g3 g4 g5 g6 => by
      rw [List.getElem?_set_ne (Ne.symm hm)] at g1 g2 g4
      exact hap m e p hm g1 g2 g3 g4 g5 g6
    have atI : ∀ {e : D}, (ρ.set i (some d))[i]? = some (some e) → (σ.set i (some v))[i]? = some (some (.ref p)) → e = d ∧ v = .ref p := fun {e} g1 g2 => by
      have l1 : i < ρ.length := by have := (List.getElem?_eq_some_iff.mp g1).1; simpa using this
      have l2 : i < σ.length := by have := (List.getElem?_eq_some_iff.mp g2).1; simpa using this
      rw [List.getElem?_set_self l1] at g1
      rw [List.getElem?_set_self l2] at g2
      cases g1
      cases g2
      exact ⟨rfl, rfl⟩
    by_cases hj : j = i
    · subst hj
      obtain ⟨rfl, hv⟩ := atI e3 s1
      exact key k d2 (fun z => hne z.symm) e2 e4 c2 s2 hv c1
    · by_cases hk : k = i
      · subst hk
        obtain ⟨rfl, hv⟩ := atI e4 s2
        exact key j d1 hj e1 e3 c1 s1 hv c2
      · rw [List.getElem?_set_ne (Ne.symm hj)] at e1 e3 s1
        rw [List.getElem?_set_ne (Ne.symm hk)] at e2 e4 s2
        exact R.apart j k d1 d2 p hne e1 e2 e3 e4 c1 c2 s1 s2
  len := by rw [List.length_set, List.length_set]; exact R.len
theorem Rel.newp {F1 H1 : Hp} (R : Rel K F0 H0 Γ F1 H1 ρ σ) {v : V} {d : D} (n : ∀ p, v = .ref p → cont d = true → H1 p = none) :
    ∀ (j : Nat) (e : D) (p : Addr), Γ[j]? = some .own → ρ[j]? = some (some e) → cont e = true → σ[j]? = some (some (.ref p)) → v = .ref p → cont d = true → False := fun j e p g1 g2 g3 g4 g5 g6 => by
  obtain ⟨w, ew, x, ex, ow, _⟩ := R.slot j e .own g2 g1
  rw [g4] at ew
  cases ew
  cases ex
  obtain ⟨q, o, e1, _, e2, _⟩ := ow.2 g3
  cases e1
  rw [n p g5 g6] at e2
  cases e2
theorem Rel.own_at (R : Rel K F0 H0 Γ F H ρ σ) {i : Nat} {d : D} (hΓ : Γ[i]? = some .own) (hρ : ρ[i]? = some (some d)) (hc : cont d = true) :
    ∃ p o, σ[i]? = some (some (.ref p)) ∧ F p = none ∧ H p = some o ∧ Ow K F o d ∧ H0 p = none := by
  obtain ⟨w, ew, x, ex, ow, n⟩ := R.slot i d .own hρ hΓ
  subst ex
  obtain ⟨p, o, rfl, h1, h2, h3⟩ := ow.2 hc
  exact ⟨p, o, ew, h1, h2, h3, n p rfl hc⟩
theorem Ow.cont {o : HO} {d : D} (h : Ow K F o d) : cont d = true := by cases h <;> rfl
theorem Rel.upd (R : Rel K F0 H0 Γ F H ρ σ) {i : Nat} {d d' : D} {p : Addr} {o' : HO} (hΓ : Γ[i]? = some .own) (hρ : ρ[i]? = some (some d)) (hc : cont d = true) (hσ : σ[i]? = some (some (.ref p))) (ho : Ow K F o' d') :
    Rel K F0 H0 Γ F (upd H p o') (ρ.set i (some d')) σ := by
  obtain ⟨q, o, e1, hF, hH, ow, h0⟩ := R.own_at hΓ hρ hc
  rw [hσ] at e1
  cases e1
  have hl : i < ρ.length := (List.getElem?_eq_some_iff.mp hρ).1
  refine ⟨fun a u e => ?_, fun a u e => ?_, R.sub, R.new, fun j e oo e1 e2 => ?_, fun j k d1 d2 r hn e1 e2 e3 e4 c1 c2 s1 s2 => ?_, by rw [List.length_set]; exact R.len⟩
  · rw [upd_ne (ne_of_none e hF)]; exact R.in_ _ _ e
  · rw [upd_ne (ne_of_none e h0)]; exact R.same _ _ e
  · by_cases hj : i = j
    · subst hj
      rw [hΓ] at e2
      cases e2
      rw [List.getElem?_set_self hl] at e1
      cases e1
      exact ⟨_, hσ, _, rfl, ⟨fun z => (by rw [ho.cont] at z; cases z), fun _ => ⟨p, o', rfl, hF, upd_same, ho⟩⟩, fun r hr _ => by cases hr; exact h0⟩
    · rw [List.getElem?_set_ne hj] at e1
      obtain ⟨w, ew, hs⟩ := R.slot j e oo e1 e2
      refine ⟨w, ew, ?_⟩
      cases oo with
      | dead => trivial
      | frz => exact hs
      | own =>
        obtain ⟨x, rfl, ox, nx⟩ := hs
        refine ⟨x, rfl, ⟨ox.1, fun z => ?_⟩, nx⟩
        obtain ⟨r, u, rfl, f1, f2, f3⟩ := ox.2 z
        have hr : r ≠ p := fun y => by subst y; exact R.apart i j d e r hj hΓ e2 hρ e1 hc z hσ ew
        exact ⟨r, u, rfl, f1, by rw [upd_ne hr]; exact f2, f3⟩
  · have back : ∀ {m : Nat} {e : D}, (ρ.set i (some d'))[m]? = some (some e) → cont e = true → ∃ e', ρ[m]? = some (some e') ∧ cont e' = true := fun {m e} g c => by
      by_cases hm : i = m
      · subst hm; exact ⟨d, hρ, hc⟩
      · rw [List.getElem?_set_ne hm] at g; exact ⟨e, g, c⟩
    obtain ⟨f1, g1, k1⟩ := back e3 c1
    obtain ⟨f2, g2, k2⟩ := back e4 c2
    exact R.apart j k f1 f2 r hn e1 e2 g1 g2 k1 k2 s1 s2
theorem set_none {i : Nat} {o : O} (h : Γ[i]? = some o) : i < Γ.length := (List.getElem?_eq_some_iff.mp h).1
theorem Rel.freeze (R : Rel K F0 H0 Γ F H ρ σ) {i : Nat} (hΓ : Γ[i]? = some .own) : ∃ F2, Same F F2 ∧ Rel K F0 H0 (Γ.set i .frz) F2 H ρ σ := by
  have drop : ∀ {F2 : Hp}, Same F F2 → Same F2 H → (∀ a o, F2 a = some o → F0 a = some o ∨ H0 a = none) →
      (∀ (j : Nat) (d : D) (x : V), j ≠ i → Γ[j]? = some .own → ρ[j]? = some (some d) → σ[j]? = some (some x) → OwV K F H x d → OwV K F2 H x d) →
      (∀ (d : D), ρ[i]? = some (some d) → ∃ x, σ[i]? = some (some x) ∧ Rp K F2 x d) → Rel K F0 H0 (Γ.set i .frz) F2 H ρ σ := by
    intro F2 s1 s2 nw ow rp
    refine ⟨s2, R.same, R.sub.trans s1, nw, fun j d o e1 e2 => ?_, fun j k d1 d2 p hn e1 e2 => ?_, R.len⟩
    · by_cases hj : i = j
      · subst hj
        rw [List.getElem?_set_self (set_none hΓ)] at e2
        cases e2
        obtain ⟨x, ex, r⟩ := rp d e1
        exact ⟨_, ex, x, rfl, r⟩
      · rw [List.getElem?_set_ne hj] at e2
        obtain ⟨w, ew, hs⟩ := R.slot j d o e1 e2
        refine ⟨w, ew, ?_⟩
        cases o with
        | dead => trivial
        | frz => obtain ⟨x, e, r⟩ := hs; exact ⟨x, e, r.mono s1⟩
        | own =>
          obtain ⟨x, rfl, ox, nx⟩ := hs
          exact ⟨x, rfl, ow j d x (Ne.symm hj) e2 e1 ew ox, nx⟩
    · have nj : i ≠ j := fun z => by subst z; rw [List.getElem?_set_self (set_none hΓ)] at e1; cases e1
      have nk : i ≠ k := fun z => by subst z; rw [List.getElem?_set_self (set_none hΓ)] at e2; cases e2
      rw [List.getElem?_set_ne nj] at e1
      rw [List.getElem?_set_ne nk] at e2
      exact R.apart j k d1 d2 p hn e1 e2
  cases hρ : ρ[i]? with
  | none => exact ⟨F, .refl _, drop (.refl _) R.in_ R.new (fun _ _ _ _ _ _ _ h => h) fun d e => by rw [hρ] at e; cases e⟩
  | some od =>
    cases od with
    | none => exact ⟨F, .refl _, drop (.refl _) R.in_ R.new (fun _ _ _ _ _ _ _ h => h) fun d e => by rw [hρ] at e; cases e⟩
    | some d =>
      cases hc : cont d with
      | false =>
        obtain ⟨w, ew, x, ex, ow, n⟩ := R.slot i d .own hρ hΓ
        subst ex
        refine ⟨F, .refl _, drop (.refl _) R.in_ R.new (fun _ _ _ _ _ _ _ h => h) fun d' e => ?_⟩
        rw [hρ] at e
        cases e
        exact ⟨x, ew, ow.1 hc⟩
      | true =>
        obtain ⟨p, o, hσ, hF, hH, ow, h0⟩ := R.own_at hΓ hρ hc
        have su : Same F (L2.upd F p o) := same_upd' hF
        refine ⟨L2.upd F p o, su, drop su (fun a u e => ?_) (fun a u e => ?_) (fun j e x hj g1 g2 g3 ox => ?_) fun d' e => ?_⟩
        · by_cases ha : a = p
          · subst ha; rw [upd_same] at e; cases e; exact hH
          · rw [upd_ne ha] at e; exact R.in_ _ _ e
        · by_cases ha : a = p
          · subst ha; exact .inr h0
          · rw [upd_ne ha] at e; exact R.new _ _ e
        · refine ⟨fun z => (ox.1 z).mono su, fun z => ?_⟩
          obtain ⟨r, u, rfl, f1, f2, f3⟩ := ox.2 z
          have hr : r ≠ p := fun y => by subst y; exact R.apart i j d e r (Ne.symm hj) hΓ g1 hρ g2 hc z hσ g3
          exact ⟨r, u, rfl, by rw [upd_ne hr]; exact f1, f2, f3.mono su⟩
        · rw [hρ] at e
          cases e
          exact ⟨_, hσ, (ow.mono su).rp upd_same⟩
end
end Q
set_option autoImplicit false
set_option linter.all false
set_option maxRecDepth 100000
set_option maxHeartbeats 8000000
namespace Q
open PySem PySem.Spec PyProof.Rows L2
section
variable {X : Cx} {K : PySem.W.Frag} {F0 H0 : Hp} {Γ : List O} {fr : Bool} {lp Γn : Option (List O)}
def tR (K : PySem.W.Frag) (F0 H0 F1 : Hp) (fr : Bool) (lp Γn : Option (List O)) (D : Ends) : R → Prop
  | .nx ρ => ∀ Γ, Γn = some Γ → ∀ F H σ, Same F1 F → Rel K F0 H0 Γ F H ρ σ → D.nx σ H
  | .bk ρ => ∀ Γ, lp = some Γ → ∀ F H σ, Same F1 F → Rel K F0 H0 Γ F H ρ σ → D.bk σ H
  | .ct ρ => ∀ Γ, lp = some Γ → ∀ F H σ, Same F1 F → Rel K F0 H0 Γ F H ρ σ → D.ct σ H
  | .rt d => ∀ v F H, Step F0 H0 F H → Post K (if fr then .own else .frz) H0 [] v d F H → D.rt v H
def tS (K : PySem.W.Frag) (F0 H0 : Hp) (Γ : List O) (fr : Bool) (lp Γn : Option (List O)) (g : Env → Option R) : TS := fun D σ H => ∃ F ρ r, Rel K F0 H0 Γ F H ρ σ ∧ g ρ = some r ∧ tR K F0 H0 F fr lp Γn D r
theorem PS.mono {st : Stmt} {t t' : TS} (h : PS X st t) (g : ∀ D σ H, t' D σ H → t D σ H) : PS X st t' := ⟨fun pins s σ H D I hw => h.run pins s σ H D I (g D σ H hw)⟩
theorem PSs.mono {st : List Stmt} {t t' : TS} (h : PSs X st t) (g : ∀ D σ H, t' D σ H → t D σ H) : PSs X st t' := ⟨fun pins s σ H D I hw => h.run pins s σ H D I (g D σ H hw)⟩
theorem PS.nox {st : Stmt} {t : TS} (h : PS X.nox st t) : PS X st t := ⟨fun pins s σ H D I hw =>
  wpAny_mono (h.run pins s σ H D (I.wish _) hw) (fun _ _ q => q.unwish) fun _ _ z => False.elim z⟩
section
variable {st : Stmt} {sts : List Stmt} {f : Env → Option D} {i : Nat}
theorem tE_fz {m : M} (hm : frzable m = true) {σ : L2.St} {H : Hp} {Q : VK} (h : tE K F0 H0 Γ .frz f σ H Q) : tE K F0 H0 Γ m f σ H Q := by
  cases m with
  | frz => exact h
  | own =>
    obtain ⟨F, ρ, d, R, e1, q⟩ := h
    refine ⟨F, ρ, d, R, e1, fun v F' H' s p => ?_⟩
    obtain ⟨F2, s2, _, r⟩ := p.1.freeze s p.2
    exact q v F2 H' s2 r
  | pl i => cases hm
def kS (g : Env → Option D) (i : Nat) : Env → Option R := fun ρ => (g ρ).bind fun d => stO i d ρ
theorem asg_frz (h : PS X st (tAsg (tE K F0 H0 Γ .frz f) (gName i))) : PS X st (tS K F0 H0 Γ fr lp (some (Γ.set i .frz)) (kS f i)) :=
  PS.mono h fun D σ H ⟨F, ρ, r, R, e1, q⟩ => by
    unfold kS at e1
    simp only [Option.bind_eq_some_iff] at e1
    obtain ⟨d, ed, e2⟩ := e1
    refine ⟨F, ρ, d, R, ed, fun v F1 H1 s1 w1 => ?_⟩
    unfold stO at e2
    split at e2
    · cases e2
      exact q _ rfl F1 H1 _ s1.sub ((R.step s1).set_ w1)
    · cases e2
theorem asg_own (h : PS X st (tAsg (tE K F0 H0 Γ .own f) (gName i))) : PS X st (tS K F0 H0 Γ fr lp (some (Γ.set i .own)) (kS f i)) :=
  PS.mono h fun D σ H ⟨F, ρ, r, R, e1, q⟩ => by
    unfold kS at e1
    simp only [Option.bind_eq_some_iff] at e1
    obtain ⟨d, ed, e2⟩ := e1
    refine ⟨F, ρ, d, R, ed, fun v F1 H1 s1 w1 => ?_⟩
    unfold stO at e2
    split at e2
    · cases e2
      exact q _ rfl F1 H1 _ s1.sub ((R.step s1).setOwn w1.1 (fun p hp hc => R.same.free (w1.2 p hp hc)) fun j e p _ g1 g2 g3 g4 g5 g6 => R.newp w1.2 j e p g1 g2 g3 g4 g5 g6)
    · cases e2
def aM (own : Bool) (m : M) : Option O := match own, m with
  | true, .own => some .own
  | false, .own => some .frz
  | false, .frz => some .frz
  | _, _ => none
theorem s_asg {m : M} {own : Bool} {o : O} (ho : aM own m = some o) (h : PS X st (tAsg (tE K F0 H0 Γ m f) (gName i))) : PS X st (tS K F0 H0 Γ fr lp (some (Γ.set i o)) (kS f i)) := by
  cases own with
  | true =>
    cases m with
    | own => cases ho; exact asg_own h
    | _ => cases ho
  | false =>
    have fz : frzable m = true → PS X st (tAsg (tE K F0 H0 Γ .frz f) (gName i)) := fun hm => PS.mono h fun D σ H z => tE_fz hm z
    cases m with
    | own => cases ho; exact asg_frz (fz rfl)
    | frz => cases ho; exact asg_frz (fz rfl)
    | pl j => cases ho
theorem s_unpT {is : List Nat} (h : PS X st (tAsg (tE K F0 H0 Γ .frz f) (gTup K is.length (gSeq is)))) : PS X st (tS K F0 H0 Γ fr lp (some (setG Γ is)) fun ρ => (f ρ).bind fun d => match d with
    | .tuple ds => (setAll is ds ρ).map .nx
    | _ => none) :=
  PS.mono h fun D σ H ⟨F, ρ, r, R, e1, q⟩ => by
    simp only [Option.bind_eq_some_iff] at e1
    obtain ⟨d, ed, e2⟩ := e1
    refine ⟨F, ρ, d, R, ed, fun v F1 H1 s1 w1 => ?_⟩
    cases d with
    | tuple ds =>
      simp only [Option.map_eq_some_iff] at e2
      obtain ⟨ρ1, e3, rfl⟩ := e2
      exact bind_ok (p := .tp is) (R.step s1) w1 e3 fun σ1 R1 _ => q _ rfl F1 H1 _ s1.sub R1
    | _ => cases e2
theorem setAll_len : ∀ {is : List Nat} {ds : List D} {ρ ρ1 : Env}, setAll is ds ρ = some ρ1 → is.length = ds.length := by
  intro is
  induction is with
  | nil => intro ds ρ ρ1 e; cases ds with | nil => rfl | cons _ _ => cases e
  | cons i is ih =>
    intro ds ρ ρ1 e
    cases ds with
    | nil => cases e
    | cons d ds =>
      unfold setAll at e
      split at e
      · simp [ih e]
      · cases e
theorem s_unpL {is : List Nat} (h : PS X st (tAsg (tE K F0 H0 Γ .frz f) (gLst K is.length (gSeq is)))) : PS X st (tS K F0 H0 Γ fr lp (some (setG Γ is)) fun ρ => (f ρ).bind fun d => match d with
    | .list ds => (setAll is ds ρ).map .nx
    | _ => none) :=
  PS.mono h fun D σ H ⟨F, ρ, r, R, e1, q⟩ => by
    simp only [Option.bind_eq_some_iff] at e1
    obtain ⟨d, ed, e2⟩ := e1
    refine ⟨F, ρ, d, R, ed, fun v F1 H1 s1 w1 => ?_⟩
    cases d with
    | list ds =>
      simp only [Option.map_eq_some_iff] at e2
      obtain ⟨ρ1, e3, rfl⟩ := e2
      cases w1 with
      | lst h1 h2 =>
        exact ⟨_, _, rfl, .inl (.inl (s1.in_ _ _ h1)), by rw [h2.length, setAll_len e3], seq_ok is Γ ds _ ρ ρ1 σ (R.step s1) h2 e3 fun σ1 R1 _ => q _ rfl F1 H1 _ s1.sub R1⟩
    | _ => cases e2
theorem s_unp {is : List Nat} (hT : PS X st (tAsg (tE K F0 H0 Γ .frz f) (gTup K is.length (gSeq is)))) (hL : PS X st (tAsg (tE K F0 H0 Γ .frz f) (gLst K is.length (gSeq is)))) :
    PS X st (tS K F0 H0 Γ fr lp (some (setG Γ is)) fun ρ => (f ρ).bind fun d => (itemsD d).bind fun ds => (setAll is ds ρ).map .nx) := by
  refine ⟨fun pins s σ H D I ⟨F, ρ, r, R, e1, q⟩ => ?_⟩
  simp only [Option.bind_eq_some_iff, Option.map_eq_some_iff] at e1
  obtain ⟨d, ed, ds, e2, ρ1, e3, rfl⟩ := e1
  cases d with
  | tuple xs =>
    cases e2
    exact (s_unpT hT).run pins s σ H D I ⟨F, ρ, _, R, by simp [ed, e3], q⟩
  | list xs =>
    cases e2
    exact (s_unpL hL).run pins s σ H D I ⟨F, ρ, _, R, by simp [ed, e3], q⟩
  | _ => cases e2
end
section
variable {st : Stmt} {a b : Expr} {fa fb : Env → Option D} {i j : Nat}
theorem Rel.put {m : M} {own : Bool} {o : O} (ho : aM own m = some o) {F1 H1 F H : Hp} {ρ : Env} {σ σ' : L2.St} {v : V} {d : D} (R1 : Rel K F0 H0 Γ F1 H1 ρ σ) (s : Step F1 H1 F H) (p : Post K m H1 σ' v d F H) (i : Nat) :
    ∃ F2, Same F F2 ∧ Step F1 H1 F2 H ∧ Rel K F0 H0 (Γ.set i o) F2 H (ρ.set i (some d)) (σ.set i (some v)) := by
  cases own with
  | true =>
    cases m with
    | own =>
      cases ho
      exact ⟨F, .refl _, s, (R1.step s).setOwn p.1 (fun q hq hc => R1.same.free (p.2 q hq hc)) fun j e q _ g1 g2 g3 g4 g5 g6 => R1.newp p.2 j e q g1 g2 g3 g4 g5 g6⟩
    | _ => cases ho
  | false =>
    cases m with
    | own =>
      cases ho
      obtain ⟨F2, s2, s3, r⟩ := p.1.freeze s p.2
      exact ⟨F2, s3, s2, (R1.step s2).set_ r⟩
    | frz => cases ho; exact ⟨F, .refl _, s, (R1.step s).set_ p⟩
    | pl j => cases ho
theorem par_ok {ma mb : M} {oa ob : Bool} {o1 o2 : O} (h1 : aM oa ma = some o1) (h2 : aM ob mb = some o2) {F H F1 H1 F2 H2 : Hp} {ρ : Env} {σ : L2.St} {v u : V} {x y : D} (R : Rel K F0 H0 Γ F H ρ σ)
    (s1 : Step F H F1 H1) (p1 : Post K ma H σ v x F1 H1) (s2 : Step F1 H1 F2 H2) (p2 : Post K mb H1 σ u y F2 H2) :
    ∃ F3, Same F F3 ∧ Rel K F0 H0 ((Γ.set i o1).set j o2) F3 H2 ((ρ.set i (some x)).set j (some y)) ((σ.set i (some v)).set j (some u)) := by
  obtain ⟨Fa, sa, sb, Ra⟩ := R.put h1 s1 p1 i
  -- the second was reckoned over F1; what is made to stay of the first is kept apart from it
  have key : ∃ Fb, Step Fa H1 Fb H2 ∧ ∃ p : V, p = u ∧ Post K mb H1 (σ.set i (some v)) u y Fb H2 := by
    -- Fb: all of F2 and of Fa
    let Fb : Hp := fun a => match F2 a with | some o => some o | none => Fa a
    have b1 : Same F2 Fb := fun a o e => by show (match F2 a with | some o => some o | none => Fa a) = some o; rw [e]
    have b2 : Same Fa Fb := fun a o e => by
      show (match F2 a with | some o => some o | none => Fa a) = some o
      cases z : F2 a with
      | none => exact e
      | some w =>
        have g1 := s2.in_ _ _ z
        have g2 := s2.same _ _ (sb.in_ _ _ e)
        rw [g1] at g2; exact g2
    have b3 : Same Fb H2 := fun a o e => by
      have e : (match F2 a with | some o => some o | none => Fa a) = some o := e
      cases z : F2 a with
      | none => rw [z] at e; exact s2.same _ _ (sb.in_ _ _ e)
      | some w => rw [z] at e; cases e; exact s2.in_ _ _ z
    refine ⟨Fb, ⟨b2, b3, s2.same, fun a o e => ?_⟩, u, rfl, ?_⟩
    · have e : (match F2 a with | some o => some o | none => Fa a) = some o := e
      cases z : F2 a with
      | none => rw [z] at e; exact .inl e
      | some w =>
        rw [z] at e; cases e
        rcases s2.new a _ z with q | q
        · exact .inl (sa _ _ q)
        · exact .inr q
    · cases mb with
      | frz => exact p2.mono b1
      | own =>
        refine ⟨⟨fun e => (p2.1.1 e).mono b1, fun e => ?_⟩, p2.2⟩
        obtain ⟨q, o, rfl, f1, f2, f3⟩ := p2.1.2 e
        refine ⟨q, o, rfl, ?_, f2, f3.mono b1⟩
        show (match F2 q with | some o => some o | none => Fa q) = none
        rw [f1]
        cases z : Fa q with
        | none => rfl
        | some w =>
          have := sb.in_ _ _ z
          rw [p2.2 q rfl e] at this
          cases this
      | pl k => cases ob <;> cases h2
  obtain ⟨Fb, st, _, _, pb⟩ := key
  obtain ⟨F3, s3, _, R3⟩ := Ra.put h2 st pb j
  exact ⟨F3, s1.sub.trans (sa.trans (st.sub.trans s3)), R3⟩
def kP (i j : Nat) (fa fb : Env → Option D) : Env → Option R := fun ρ => (fa ρ).bind fun x => (fb ρ).bind fun y => if i < ρ.length ∧ j < ρ.length then some (.nx ((ρ.set i (some x)).set j (some y))) else none
theorem s_par {ma mb : M} {oa ob : Bool} {o1 o2 : O} (h1 : aM oa ma = some o1) (h2 : aM ob mb = some o2) (h : PS X st (tPar i j (tCons (tE K F0 H0 Γ ma fa) (tCons (tE K F0 H0 Γ mb fb) tNil)))) :
    PS X st (tS K F0 H0 Γ fr lp (some ((Γ.set i o1).set j o2)) (kP i j fa fb)) :=
  PS.mono h fun D σ H ⟨F, ρ, r, R, e1, q⟩ => by
    unfold kP at e1
    simp only [Option.bind_eq_some_iff] at e1
    obtain ⟨x, ex, y, ey, e2⟩ := e1
    split at e2
    · cases e2
      refine ⟨F, ρ, x, R, ex, fun v F1 H1 s1 p1 => ⟨F1, ρ, y, R.step s1, ey, fun u F2 H2 s2 p2 => ⟨v, u, rfl, ?_⟩⟩⟩
      obtain ⟨F3, s3, R3⟩ := par_ok (i := i) (j := j) h1 h2 R s1 p1 s2 p2
      exact q _ rfl F3 H2 _ s3 R3
    · cases e2
theorem s_parT {ma mb : M} {oa ob : Bool} {o1 o2 : O} (h1 : aM oa ma = some o1) (h2 : aM ob mb = some o2) (h : PS X st (tAsg (tTup (tCons (tE K F0 H0 Γ ma fa) (tCons (tE K F0 H0 Γ mb fb) tNil))) (gTup K 2 (gSeq [i, j])))) :
    PS X st (tS K F0 H0 Γ fr lp (some ((Γ.set i o1).set j o2)) (kP i j fa fb)) :=
  PS.mono h fun D σ H ⟨F, ρ, r, R, e1, q⟩ => by
    unfold kP at e1
    simp only [Option.bind_eq_some_iff] at e1
    obtain ⟨x, ex, y, ey, e2⟩ := e1
    split at e2
    · cases e2
      refine ⟨F, ρ, x, R, ex, fun v F1 H1 s1 p1 => ⟨F1, ρ, y, R.step s1, ey, fun u F2 H2 s2 p2 => ⟨by show 2 ≤ sizeLine; decide, fun t ht => ?_⟩⟩⟩
      obtain ⟨F3, s3, R3⟩ := par_ok (i := i) (j := j) h1 h2 R s1 p1 s2 p2
      have su : Same H2 (upd H2 t (.tup [v, u])) := same_upd' ht
      exact ⟨t, [v, u], rfl, .inl (.inl upd_same), rfl, v, [u], rfl, u, [], rfl, rfl, q _ rfl F3 _ _ s3 (R3.step ⟨.refl _, R3.in_.trans su, su, fun _ _ z => .inl z⟩)⟩
    · cases e2
end
end
end Q
set_option autoImplicit false
set_option linter.all false
set_option maxRecDepth 100000
set_option maxHeartbeats 8000000
namespace Q
open PySem PySem.Spec PyProof.Rows L2
section
variable {X : Cx} {K : PySem.W.Frag} {F0 H0 : Hp} {Γ : List O} {fr : Bool} {lp Γn : Option (List O)} {st : Stmt} {sts : List Stmt} {i : Nat} {f fk : Env → Option D}
def vr (i : Nat) : Env → Option D := fun ρ => (ρ[i]?).join
theorem join_some {ρ : Env} {i : Nat} {d : D} (h : vr i ρ = some d) : ρ[i]? = some (some d) := by
  have e1 : (ρ[i]?).join = some d := h
  cases z : ρ[i]? with
  | none => rw [z] at e1; cases e1
  | some w => rw [z] at e1; rw [show w = some d from e1]
theorem join_of {ρ : Env} {i : Nat} {d : D} (h : (ρ[i]?).join = some d) : vr i ρ = some d := h
theorem s_app (hΓ : Γ[i]? = some .own) (h : PS X st (tDrop (tBM K "list" rAppend (tE K F0 H0 Γ (.pl i) (vr i)) (tCons (tE K F0 H0 Γ .frz f) tNil)))) :
    PS X st (tS K F0 H0 Γ fr lp (some Γ) fun ρ => (f ρ).bind fun d => match (ρ[i]?).join with
      | some (.list xs) => if xs.length < SL then stO i (.list (xs ++ [d])) ρ else none
      | _ => none) :=
  PS.mono h fun D σ H ⟨F, ρ, r, R, e1, q⟩ => by
    simp only [Option.bind_eq_some_iff] at e1
    obtain ⟨d, ed, e2⟩ := e1
    split at e2
    · rename_i xs hx
      split at e2
      · rename_i hl
        have hρ := join_some (join_of hx)
        unfold stO at e2
        split at e2
        · cases e2
          refine ⟨F, ρ, .list xs, R, join_of hx, fun v F1 H1 s1 p1 => ?_⟩
          obtain ⟨p, o, rfl, hF, hH, ow⟩ := p1.1.2 rfl
          cases ow with
          | lst rl =>
            refine ⟨.inl ⟨rfl, _, .inl (.inl hH)⟩, F1, ρ, d, R.step s1, ed, fun w F2 H2 s2 r2 => ⟨p, _, w, rfl, rfl, s2.same _ _ hH, ?_, ?_⟩⟩
            · rw [rl.length, sl_eq]; exact hl
            · exact q _ rfl F2 _ _ (s1.sub.trans s2.sub) (((R.step s1).step s2).upd hΓ hρ rfl p1.2 (.lst ((rl.mono s2.sub).app (.one r2))))
        · cases e2
      · cases e2
    · cases e2
theorem s_ext (hΓ : Γ[i]? = some .own) (h : PS X st (tDrop (tBM K "list" rExtend (tE K F0 H0 Γ (.pl i) (vr i)) (tCons (tE K F0 H0 Γ .frz f) tNil)))) :
    PS X st (tS K F0 H0 Γ fr lp (some Γ) fun ρ => (f ρ).bind fun d => match (ρ[i]?).join, d with
      | some (.list xs), .list ys => if xs.length + ys.length ≤ SL then stO i (.list (xs ++ ys)) ρ else none
      | _, _ => none) :=
  PS.mono h fun D σ H ⟨F, ρ, r, R, e1, q⟩ => by
    simp only [Option.bind_eq_some_iff] at e1
    obtain ⟨d, ed, e2⟩ := e1
    split at e2
    · rename_i xs ys hx
      split at e2
      · rename_i hl
        have hρ := join_some (join_of hx)
        unfold stO at e2
        split at e2
        · cases e2
          refine ⟨F, ρ, .list xs, R, join_of hx, fun v F1 H1 s1 p1 => ?_⟩
          obtain ⟨p, o, rfl, hF, hH, ow⟩ := p1.1.2 rfl
          cases ow with
          | lst rl =>
            refine ⟨.inl ⟨rfl, _, .inl (.inl hH)⟩, F1, ρ, .list ys, R.step s1, ed, fun w F2 H2 s2 r2 => ?_⟩
            cases r2 with
            | lst g1 g2 =>
              refine ⟨p, _, _, _, rfl, rfl, s2.same _ _ hH, s2.in_ _ _ g1, ?_, ?_⟩
              · rw [rl.length, g2.length, sl_eq]; exact hl
              · exact q _ rfl F2 _ _ (s1.sub.trans s2.sub) (((R.step s1).step s2).upd hΓ hρ rfl p1.2 (.lst ((rl.mono s2.sub).app g2)))
        · cases e2
      · cases e2
    · cases e2
theorem kOf {x : D} {q : Int ⊕ Str} (h : keyOf x = some q) : x = keyD q := by cases x <;> cases h <;> rfl
theorem kOf_vw {F H : Hp} {v : V} {x : D} {q : Int ⊕ Str} (h : keyOf x = some q) (w : Vw K F H v x) : v = kV q := by
  cases x with
  | int i => cases h; exact w.int
  | str y => cases h; exact w.str
  | _ => cases h
theorem s_put (hΓ : Γ[i]? = some .own) (h : PS X st (sDPut (tE K F0 H0 Γ (.pl i) (vr i)) (tV K F0 H0 Γ fk) (tE K F0 H0 Γ .frz f))) :
    PS X st (tS K F0 H0 Γ fr lp (some Γ) fun ρ => (f ρ).bind fun y => (fk ρ).bind fun x => match (ρ[i]?).join with
      | some (.dict kvs) => (keyOf x).bind fun q => if kvs.length < SL then stO i (.dict (dput q y kvs)) ρ else none
      | _ => none) :=
  PS.mono h fun D σ H ⟨F, ρ, r, R, e1, q⟩ => by
    simp only [Option.bind_eq_some_iff] at e1
    obtain ⟨y, ey, x, ex, e2⟩ := e1
    split at e2
    · rename_i kvs hx
      simp only [Option.bind_eq_some_iff] at e2
      obtain ⟨k, ek, e2⟩ := e2
      split at e2
      · rename_i hl
        have hρ := join_some (join_of hx)
        unfold stO at e2
        split at e2
        · cases e2
          refine ⟨F, ρ, y, R, ey, fun v F1 H1 s1 r1 => ⟨F1, ρ, .dict kvs, R.step s1, join_of hx, fun vd F2 H2 s2 p2 => ⟨F2, ρ, x, (R.step s1).step s2, ex, fun vk F3 H3 s3 w3 => ?_⟩⟩⟩
          obtain ⟨p, o, rfl, hF, hH, ow⟩ := p2.1.2 rfl
          cases ow with
          | dct rk =>
            have := kOf_vw ek w3
            subst this
            refine ⟨p, _, rfl, DPut.k (s3.same _ _ hH) (by rw [rk.length, sl_eq]; exact hl), ?_⟩
            exact q _ rfl F3 _ _ (s1.sub.trans (s2.sub.trans s3.sub)) ((((R.step s1).step s2).step s3).upd hΓ hρ rfl p2.2 (.dct (putK_dput ((r1.mono s2.sub).mono s3.sub) (rk.mono s3.sub))))
        · cases e2
      · cases e2
    · cases e2

def mt : List O → List O → List O
  | a :: r, b :: s => (if a = b then a else .dead) :: mt r s
  | _, _ => []
def jn : Option (List O) → Option (List O) → Option (Option (List O))
  | none, b => some b
  | some a, none => some (some a)
  | some a, some b => if leO (mt a b) a && leO (mt a b) b then some (some (mt a b)) else none
theorem leO_refl : ∀ Γ : List O, leO Γ Γ = true
  | [] => rfl
  | .dead :: r => leO_refl r
  | .frz :: r => leO_refl r
  | .own :: r => leO_refl r
theorem jn_ok {a b c : Option (List O)} (h : jn a b = some c) : (∀ Γa, a = some Γa → ∃ Γ, c = some Γ ∧ leO Γ Γa = true) ∧ (∀ Γb, b = some Γb → ∃ Γ, c = some Γ ∧ leO Γ Γb = true) := by
  cases a with
  | none =>
    cases h
    exact ⟨fun _ e => (by cases e), fun Γb e => ⟨Γb, e, leO_refl _⟩⟩
  | some a =>
    cases b with
    | none =>
      cases h
      exact ⟨fun Γa e => ⟨Γa, e, leO_refl _⟩, fun _ e => (by cases e)⟩
    | some b =>
      have h : (if leO (mt a b) a && leO (mt a b) b then some (some (mt a b)) else none) = some c := h
      split at h
      · rename_i z
        cases h
        obtain ⟨z1, z2⟩ := and_t z
        exact ⟨fun Γa e => (by cases e; exact ⟨_, rfl, z1⟩), fun Γb e => (by cases e; exact ⟨_, rfl, z2⟩)⟩
      · cases h
theorem tR_weak {Γa : Option (List O)} (hw : ∀ Γ1, Γa = some Γ1 → ∃ Γ, Γn = some Γ ∧ leO Γ Γ1 = true) {F F' : Hp} (s : Same F F') {D : Ends} {r : R} (h : tR K F0 H0 F fr lp Γn D r) : tR K F0 H0 F' fr lp Γa D r := by
  cases r with
  | nx ρ =>
    intro Γ1 e1 F2 H2 σ2 s2 R2
    obtain ⟨Γ, e, l⟩ := hw Γ1 e1
    exact h Γ e F2 H2 σ2 (s.trans s2) (R2.weak l)
  | bk ρ => exact fun Γ1 e1 F2 H2 σ2 s2 R2 => h Γ1 e1 F2 H2 σ2 (s.trans s2) R2
  | ct ρ => exact fun Γ1 e1 F2 H2 σ2 s2 R2 => h Γ1 e1 F2 H2 σ2 (s.trans s2) R2
  | rt d => exact h
theorem s_if {c : Expr} {p q : List Stmt} {pos : Pos} {gc : Env → Option Bool} {ga gb : Env → Option R} {Γa Γb : Option (List O)} (hj : jn Γa Γb = some Γn) (hc : PT X c (tB' K F0 H0 Γ gc)) (ha : PSs X p (tS K F0 H0 Γ fr lp Γa ga)) (hb : PSs X q (tS K F0 H0 Γ fr lp Γb gb)) :
    PS X (.If c p q pos) (tS K F0 H0 Γ fr lp Γn fun ρ => (gc ρ).bind fun
      | true => ga ρ
      | false => gb ρ) :=
  PS.mono (ps_if hc ha hb) fun D σ H ⟨F, ρ, r, R, e1, q⟩ => by
    simp only [Option.bind_eq_some_iff] at e1
    obtain ⟨b, eb, e2⟩ := e1
    refine ⟨F, ρ, b, R, eb, fun F1 H1 s1 => ?_⟩
    cases b with
    | true => rw [if_pos rfl]; exact ⟨F1, ρ, r, R.step s1, e2, tR_weak (jn_ok hj).1 s1.sub q⟩
    | false => rw [if_neg Bool.false_ne_true]; exact ⟨F1, ρ, r, R.step s1, e2, tR_weak (jn_ok hj).2 s1.sub q⟩

theorem s_nil : PSs X [] (tS K F0 H0 Γ fr lp (some Γ) fun ρ => some (.nx ρ)) :=
  PSs.mono pss_nil fun D σ H ⟨F, ρ, r, R, e1, q⟩ => by
    cases e1
    exact q _ rfl F H σ (.refl _) R
def kQ (g1 g2 : Env → Option R) : Env → Option R := fun ρ => (g1 ρ).bind fun
  | .nx ρ2 => g2 ρ2
  | o => some o
theorem s_cons {Γa : List O} {g1 g2 : Env → Option R} (h1 : PS X st (tS K F0 H0 Γ fr lp (some Γa) g1)) (h2 : PSs X sts (tS K F0 H0 Γa fr lp Γn g2)) : PSs X (st :: sts) (tS K F0 H0 Γ fr lp Γn (kQ g1 g2)) :=
  PSs.mono (pss_cons h1 h2) fun D σ H ⟨F, ρ, r, R, e1, q⟩ => by
    unfold kQ at e1
    simp only [Option.bind_eq_some_iff] at e1
    obtain ⟨r1, er, e2⟩ := e1
    refine ⟨F, ρ, r1, R, er, ?_⟩
    cases r1 with
    | nx ρ2 =>
      intro Γ1 e3 F2 H2 σ2 s2 R2
      cases e3
      exact ⟨F2, ρ2, r, R2, e2, tR_weak (Γa := Γn) (fun Γ1 e => ⟨Γ1, e, leO_refl _⟩) s2 q⟩
    | bk ρ2 => cases e2; exact q
    | ct ρ2 => cases e2; exact q
    | rt d => cases e2; exact q
theorem s_last {Γm : Option (List O)} {g1 g2 : Env → Option R} (h1 : PS X st (tS K F0 H0 Γ fr lp none g1)) : PSs X (st :: sts) (tS K F0 H0 Γ fr lp Γm (kQ g1 g2)) :=
  PSs.mono (pss_cons h1 (pss_never (sts := sts))) fun D σ H ⟨F, ρ, r, R, e1, q⟩ => by
    unfold kQ at e1
    simp only [Option.bind_eq_some_iff] at e1
    obtain ⟨r1, er, e2⟩ := e1
    refine ⟨F, ρ, r1, R, er, ?_⟩
    cases r1 with
    | nx ρ2 => intro Γ1 e3; cases e3
    | bk ρ2 => cases e2; exact q
    | ct ρ2 => cases e2; exact q
    | rt d => cases e2; exact q
theorem s_frz {g : Env → Option R} (hΓ : Γ[i]? = some .own) (h : PSs X sts (tS K F0 H0 (Γ.set i .frz) fr lp Γn g)) : PSs X sts (tS K F0 H0 Γ fr lp Γn (kQ (fun ρ => some (.nx ρ)) g)) :=
  PSs.mono h fun D σ H ⟨F, ρ, r, R, e1, q⟩ => by
    obtain ⟨F2, s2, R2⟩ := R.freeze hΓ
    exact ⟨F2, ρ, r, R2, e1, tR_weak (fun Γ1 e => ⟨Γ1, e, leO_refl _⟩) s2 q⟩

theorem s_whl {c : Expr} {body : List Stmt} {pos : Pos} {gc : Env → Option Bool} {gb : Env → Option R} {inv : List O} {Γb : Option (List O)} (hp : PassesOwn (model X.prog X.w) X.A X.env X.xe) (W : Nat) (hi : leO inv Γ = true) (hb' : ∀ Γ1, Γb = some Γ1 → leO inv Γ1 = true)
    (hc : PT X c (tB' K F0 H0 inv gc)) (hb : PSs X body (tS K F0 H0 inv fr (some inv) Γb gb)) : PS X (.While c body [] pos) (tS K F0 H0 Γ fr lp (some inv) (goW gc gb W)) :=
  PS.mono (ps_while hp hc hb) fun D σ H ⟨F, ρ, r, R, e1, q⟩ => by
    refine ⟨fun m σ' H' => ∃ F' ρ', Same F F' ∧ Rel K F0 H0 inv F' H' ρ' σ' ∧ goW gc gb m ρ' = some r, ⟨W, F, ρ, .refl _, R.weak hi, e1⟩, fun m σ1 H1 ⟨F1, ρ1, sF, R1, e2⟩ => ?_⟩
    cases m with
    | zero => cases e2
    | succ m =>
      unfold goW at e2
      simp only [Option.bind_eq_some_iff] at e2
      obtain ⟨b, eb, e3⟩ := e2
      refine ⟨F1, ρ1, b, R1, eb, fun F2 H2 s2 => ?_⟩
      cases b with
      | false =>
        cases e3
        rw [if_neg Bool.false_ne_true]
        exact q _ rfl F2 H2 σ1 (sF.trans s2.sub) (R1.step s2)
      | true =>
        rw [if_pos rfl]
        simp only [Option.bind_eq_some_iff] at e3
        obtain ⟨rb, erb, e4⟩ := e3
        refine ⟨fun σ3 H3 => ∃ F' ρ', Same F F' ∧ Rel K F0 H0 inv F' H3 ρ' σ3 ∧ goW gc gb m ρ' = some r, fun σ3 H3 z => ⟨m, Nat.lt_succ_self m, z⟩, F2, ρ1, rb, R1.step s2, erb, ?_⟩
        cases rb with
        | nx ρ2 => exact fun Γ1 e5 F3 H3 σ3 s3 R3 => ⟨F3, ρ2, sF.trans (s2.sub.trans s3), R3.weak (hb' _ e5), e4⟩
        | ct ρ2 => exact fun Γ1 e5 F3 H3 σ3 s3 R3 => by cases e5; exact ⟨F3, ρ2, sF.trans (s2.sub.trans s3), R3, e4⟩
        | bk ρ2 => exact fun Γ1 e5 F3 H3 σ3 s3 R3 => by cases e5; cases e4; exact q _ rfl F3 H3 σ3 (sF.trans (s2.sub.trans s3)) R3
        | rt d => cases e4; exact q
def tIF (K : PySem.W.Frag) (F0 H0 : Hp) (Γ : List O) (f : Env → Option (List D)) : TI := fun σ H R => ∃ F ρ ds, Rel K F0 H0 Γ F H ρ σ ∧ f ρ = some ds ∧ ∀ J F' H' S, Step F H F' H' → Same S F' → WalkD K J S F' ds → ds.length ≤ SL → R J H'
theorem s_for {tg iter : Expr} {body : List Stmt} {pos : Pos} {fi : Env → Option (List D)} {gb : Env → Option R} {inv : List O} {Γb : Option (List O)} {p : P} (hp : PassesOwn (model X.prog X.w) X.A X.env X.xe) (hcl : X.calm = true) (hi : leO inv Γ = true) (hb' : ∀ Γ1, Γb = some Γ1 → leO inv Γ1 = true)
    (hit : PI X tg iter (tIF K F0 H0 Γ fi)) (hg : PG X tg (gP K p)) (hb : PSs X body (tS K F0 H0 (setG inv (psl p)) fr (some inv) Γb gb)) (hs : ∀ x, foldedSetIterable iter X.env x = pure x) :
    PS X (.For tg iter body [] pos) (tS K F0 H0 Γ fr lp (some inv) fun ρ => (fi ρ).bind fun ds => goF p gb ds ρ) :=
  PS.mono (ps_for hp hcl hit hg hb hs) fun D σ H ⟨F, ρ, r, R, e1, q⟩ => by
    simp only [Option.bind_eq_some_iff] at e1
    obtain ⟨ds, eds, e2⟩ := e1
    refine ⟨F, ρ, ds, R, eds, fun J F1 H1 S s1 sS wk hl => ?_⟩
    obtain ⟨vs, rvs, wk⟩ := wk
    refine ⟨fun i m σ' H' => m = ds.length - i ∧ i ≤ ds.length ∧ ∃ F' ρ', Same F1 F' ∧ Rel K F0 H0 inv F' H' ρ' σ' ∧ goF p gb (ds.drop i) ρ' = some r, ⟨ds.length, by simp, Nat.zero_le _, F1, ρ, .refl _, (R.step s1).weak hi, e2⟩, fun i m σ2 H2 ⟨hm, hle, F2, ρ2, sF, R2, e3⟩ => ?_⟩
    subst hm
    have sH : Same S H2 := sS.trans (sF.trans R2.in_)
    by_cases hlt : i < ds.length
    · obtain ⟨go, y⟩ := (wk i H2 sH).1 hlt
      rw [List.drop_eq_getElem_cons hlt] at e3
      unfold goF at e3
      simp only [Option.bind_eq_some_iff] at e3
      obtain ⟨ρ3, e4, rb, e5, e6⟩ := e3
      refine .inr ⟨go, fun σ' H' => ∃ F' ρ', Same F1 F' ∧ Rel K F0 H0 inv F' H' ρ' σ' ∧ goF p gb (ds.drop (i + 1)) ρ' = some r, fun σ' H' z => ⟨ds.length - (i + 1), by omega, rfl, hlt, z⟩, fun x H' yy => ?_⟩
      obtain ⟨e7, e8⟩ := y x H' yy
      subst e7
      obtain ⟨v, ev, rv⟩ := (rvs.mono sF).get (i := i) (d := ds[i]) (by simp [hlt])
      rw [e8] at ev
      cases ev
      refine bind_ok R2 rv e4 fun σ3 R3 _ => ⟨F2, ρ3, rb, R3, e5, ?_⟩
      cases rb with
      | nx ρ4 => exact fun Γ1 e9 F3 H3 σ4 s3 R4 => ⟨F3, ρ4, sF.trans s3, R4.weak (hb' _ e9), e6⟩
      | ct ρ4 => exact fun Γ1 e9 F3 H3 σ4 s3 R4 => by cases e9; exact ⟨F3, ρ4, sF.trans s3, R4, e6⟩
      | bk ρ4 => exact fun Γ1 e9 F3 H3 σ4 s3 R4 => by cases e9; cases e6; exact q _ rfl F3 H3 σ4 (s1.sub.trans (sF.trans s3)) R4
      | rt d => cases e6; exact q
    · have e : i = ds.length := by omega
      subst e
      rw [List.drop_length] at e3
      cases e3
      exact .inl ⟨(wk _ H2 sH).2 (Nat.le_refl _), q _ rfl F2 H2 σ2 (s1.sub.trans sF) R2⟩

theorem post_end {F H F' H' : Hp} {v : V} {d : D} (s : Step F H F' H') (o : OwV K F' H' v d) (n : ∀ p, v = .ref p → cont d = true → H p = none) : ∃ F2, Step F H F2 H' ∧ Post K (if fr then .own else .frz) H [] v d F2 H' := by
  cases fr with
  | true => exact ⟨F', s, o, n⟩
  | false =>
    obtain ⟨F2, s2, _, r⟩ := o.freeze s n
    exact ⟨F2, s2, r⟩
def rM (fr : Bool) : M → Bool
  | .frz => !fr
  | _ => true
theorem s_ret {m : M} (hm : rM fr m = true) (hpl : ∀ i, m = .pl i → Γ[i]? = some .own ∧ ∀ ρ d, f ρ = some d → vr i ρ = some d) (h : PS X st (tRet (tE K F0 H0 Γ m f))) : PS X st (tS K F0 H0 Γ fr lp none fun ρ => (f ρ).map .rt) :=
  PS.mono h fun D σ H ⟨F, ρ, r, R, e1, q⟩ => by
    simp only [Option.map_eq_some_iff] at e1
    obtain ⟨d, ed, rfl⟩ := e1
    refine ⟨F, ρ, d, R, ed, fun v F1 H1 s1 p1 => ?_⟩
    have s2 := R.all.trans s1
    cases m with
    | frz =>
      cases fr with
      | true => cases hm
      | false => exact q v F1 H1 s2 p1
    | own =>
      obtain ⟨F2, s3, p3⟩ := post_end (fr := fr) s2 p1.1 fun p hp hc => R.same.free (p1.2 p hp hc)
      exact q v F2 H1 s3 p3
    | pl i =>
      obtain ⟨hΓ, hv⟩ := hpl i rfl
      obtain ⟨w, ew, x, ex, _, n⟩ := R.slot i d .own (join_some (hv ρ d ed)) hΓ
      subst ex
      rw [p1.2] at ew
      cases ew
      obtain ⟨F2, s3, p3⟩ := post_end (fr := fr) s2 p1.1 n
      exact q v F2 H1 s3 p3
theorem s_pass {pos : Pos} : PS X (.Pass pos) (tS K F0 H0 Γ fr lp (some Γ) fun ρ => some (.nx ρ)) :=
  PS.mono ps_pass fun D σ H ⟨F, ρ, r, R, e1, q⟩ => by cases e1; exact q _ rfl F H σ (.refl _) R
theorem s_brk {pos : Pos} {inv : List O} (hi : leO inv Γ = true) : PS X (.Break pos) (tS K F0 H0 Γ fr (some inv) none fun ρ => some (.bk ρ)) :=
  PS.mono ps_break fun D σ H ⟨F, ρ, r, R, e1, q⟩ => by cases e1; exact q _ rfl F H σ (.refl _) (R.weak hi)
theorem s_cnt {pos : Pos} {inv : List O} (hi : leO inv Γ = true) : PS X (.Continue pos) (tS K F0 H0 Γ fr (some inv) none fun ρ => some (.ct ρ)) :=
  PS.mono ps_continue fun D σ H ⟨F, ρ, r, R, e1, q⟩ => by cases e1; exact q _ rfl F H σ (.refl _) (R.weak hi)
end
end Q
set_option autoImplicit false
set_option linter.all false
set_option maxRecDepth 100000
set_option maxHeartbeats 8000000
namespace Q
open PySem PySem.Spec PyProof.Rows L2
section
variable {X : Cx} {K : PySem.W.Frag} {F0 H0 : Hp} {Γ : List O} {i : Nat} {y : Str} {py pos spos : Pos}
theorem PS.evA {st : Stmt} {f f' : Env → Option D} {m : M} (h : PS X st (tAsg (tE K F0 H0 Γ m f) (gName i))) (hf : ∀ ρ, f' ρ = f ρ) : PS X st (tAsg (tE K F0 H0 Γ m f') (gName i)) := by
  have : f' = f := funext hf
  rw [this]; exact h
theorem ps_setDc {kx vx tg iter : Expr} {scope : Scope} {own : List (Str × Nat)} {wi : TI} {g : TG} {tk tv : TE} (hc : X.calm = true) (hN : X.N.Nodup) (hy : X.N[i]? = some y) (hyl : X.env.scope.names.lookup y = some .local)
    (hsw : swapsWith (.DictComp kx vx [⟨tg, iter, [], 0⟩] scope pos) (some (.Name y py)) spos.line X.env = pure true) (hi : PI X tg iter wi) (ok : BlkOk X.N X.env.scope scope own)
    (hg : ∀ (s : Shared) (H : Hp) (C : Addr) (cl : List (Str × Addr)) (fp : List Addr), PG (X.blk s H scope (compEnvC scope cl C X.env) fp) tg g)
    (hk : ∀ (s : Shared) (H : Hp) (C : Addr) (cl : List (Str × Addr)) (fp : List Addr), PE (X.blk s H scope (compEnvC scope cl C X.env) fp) kx tk)
    (he : ∀ (s : Shared) (H : Hp) (C : Addr) (cl : List (Str × Addr)) (fp : List Addr), PE (X.blk s H scope (compEnvC scope cl C X.env) fp) vx tv) (hs : ∀ x, foldedSetIterable iter X.env x = pure x) :
    PS X (.Assign [.Name y py] (.DictComp kx vx [⟨tg, iter, [], 0⟩] scope pos) spos) (tAsg (tDc wi g tYes tk tv (own.map (·.2))) (gName i)) := by
  refine ⟨fun pins s σ H D I hh => ?_⟩
  rw [exec_Assign_Name_used _ _ _ _ hsw]
  refine wpAny_bind (wpAny_standAt (wpAny_bind ?_))
  show wpAny _ X.A (do let _ ← comprehension (.DictComp kx vx [⟨tg, iter, [], 0⟩] scope pos) scope X.env (firstIterPos [⟨tg, iter, [], 0⟩] pos) newDict false (eval iter X.env) (some (assign (.Name y py) X.env))) _ _ s
  have hh : tDc wi g tYes tk tv (own.map (·.2)) σ H (fun x H1 => gName i x σ H1 D.nx) := hh
  refine wpAny_bind (thn (dc_core (Qf := fun _ s' => SP X pins D .next s') hc hN I hi ok hg (fun _ _ _ _ _ => pts_nil) hk he hs hh fun L C s2 m H2 I2 q hn f => ?_) fun _ s' hq => wpAny_pure (wpAny_pure hq))
  show wpAny _ _ (assign (.Name y py) X.env (.ref L)) _ _ _
  refine wpAny_assign_Name (store_ok2 (v := V.ref L) I2 hN hy (.inl hyl) rfl (fun s3 I3 ⟨a, sb, ha⟩ => ?_) (.inr hyl))
  obtain ⟨f0, f1, f2, f3, f4, f5⟩ := f
  have ne : C ≠ a := by
    rcases ha with z | z
    · exact z ▸ f1
    · exact fun e => f4 y a z e.symm
  exact ⟨m, hn.sameBut sb ne, fun h3 sb3 => ⟨_, H2, I3.turned (t' := s3.toks) (fun b o hb e => (sb3.2 b hb).trans e) f0 f1 f3 f4 f5, q⟩⟩
section
variable {tg iter elt kx vx : Expr} {ifs : List Expr} {scope : Scope} {own : List (Str × Nat)} {p : P} {fi : Env → Option (List D)} {fc : Env → Option Bool} {fe fk : Env → Option D} {tt : TT}
theorem q_lcS (hcalm : X.calm = true) (hN : X.N.Nodup) (hy : X.N[i]? = some y) (hyl : X.env.scope.names.lookup y = some .local) (hsw : swapsWith (.ListComp elt [⟨tg, iter, ifs, 0⟩] scope pos) (some (.Name y py)) spos.line X.env = pure true) (hi : PI X tg iter (tI K F0 H0 Γ fi)) (ok : BlkOk X.N X.env.scope scope own) (hp : ∀ i ∈ psl p, i ∈ own.map (·.2))
    (hg : ∀ (s : Shared) (H : Hp) (C : Addr) (cl : List (Str × Addr)) (fp : List Addr), PG (X.blk s H scope (compEnvC scope cl C X.env) fp) tg (gP K p)) (ht : ∀ (s : Shared) (H : Hp) (C : Addr) (cl : List (Str × Addr)) (fp : List Addr), PTs (X.blk s H scope (compEnvC scope cl C X.env) fp) ifs tt)
    (htt : ∀ σ H Q, tB' K F0 H0 (setG Γ (psl p)) fc σ H Q → tt σ H Q)
    (he : ∀ (s : Shared) (H : Hp) (C : Addr) (cl : List (Str × Addr)) (fp : List Addr), PE (X.blk s H scope (compEnvC scope cl C X.env) fp) elt (tE K F0 H0 (setG Γ (psl p)) .frz fe)) (hs : ∀ x, foldedSetIterable iter X.env x = pure x) :
    PS X (.Assign [.Name y py] (.ListComp elt [⟨tg, iter, ifs, 0⟩] scope pos) spos) (tAsg (tE K F0 H0 Γ .own fun ρ => (fi ρ).bind fun ds => (fmM (turnF (own.map (·.2)) p fc fe ρ) ds).map PyData.list) (gName i)) :=
  PS.mono (ps_setLc hcalm hN hy hyl hsw hi ok hg ht he hs) fun D σ H h => lc_ok hp htt (fun _ _ _ z => z) σ H _ h
theorem q_dcS (hcalm : X.calm = true) (hN : X.N.Nodup) (hy : X.N[i]? = some y) (hyl : X.env.scope.names.lookup y = some .local) (hsw : swapsWith (.DictComp kx vx [⟨tg, iter, [], 0⟩] scope pos) (some (.Name y py)) spos.line X.env = pure true) (hi : PI X tg iter (tI K F0 H0 Γ fi)) (ok : BlkOk X.N X.env.scope scope own) (hp : ∀ i ∈ psl p, i ∈ own.map (·.2))
    (hg : ∀ (s : Shared) (H : Hp) (C : Addr) (cl : List (Str × Addr)) (fp : List Addr), PG (X.blk s H scope (compEnvC scope cl C X.env) fp) tg (gP K p))
    (hk : ∀ (s : Shared) (H : Hp) (C : Addr) (cl : List (Str × Addr)) (fp : List Addr), PE (X.blk s H scope (compEnvC scope cl C X.env) fp) kx (tV K F0 H0 (setG Γ (psl p)) fk))
    (he : ∀ (s : Shared) (H : Hp) (C : Addr) (cl : List (Str × Addr)) (fp : List Addr), PE (X.blk s H scope (compEnvC scope cl C X.env) fp) vx (tE K F0 H0 (setG Γ (psl p)) .frz fe)) (hs : ∀ x, foldedSetIterable iter X.env x = pure x) :
    PS X (.Assign [.Name y py] (.DictComp kx vx [⟨tg, iter, [], 0⟩] scope pos) spos) (tAsg (tE K F0 H0 Γ .own fun ρ => (fi ρ).bind fun ds => (ds.foldlM (turnD (own.map (·.2)) p fk fe ρ) []).map PyData.dict) (gName i)) :=
  PS.mono (ps_setDc hcalm hN hy hyl hsw hi ok hg hk he hs) fun D σ H h => dc_ok hp (fun _ _ _ z => z) (fun _ _ _ z => z) σ H _ h
end
end
section
variable {N : List Str} {isF : Sig} {Φ : Fns} {n : Nat}
theorem snd_lcS (S : Snd N isF Φ n) : ∀ {sc : Scope} {e : Expr} {own : List Nat} {p : P} {it : E} {hc : Bool} {c el : E}, mE N (n + 1) sc e (.lc own p it hc c el) = true → ∀ {X : Cx} {k : Nat} {K : PySem.W.Frag} {F0 H0 : Hp} {Γ : List O} {m : M} {iy : Nat} {y : Str} {py spos : Pos}, Good X N isF Φ k → X.env.scope = sc → X.K = K → md isF Γ (.lc own p it hc c el) = some m →
    X.N[iy]? = some y → X.env.scope.names.lookup y = some .local → (∀ elt gs scope pos, e = .ListComp elt gs scope pos → swapsWith e (some (.Name y py)) spos.line X.env = pure true) → PS X (.Assign [.Name y py] e spos) (tAsg (tE K F0 H0 Γ m (ev Φ (.lc own p it hc c el))) (gName iy)) := by
  intro sc e own p it hc c el h X k K F0 H0 Γ m iy y py spos g hs hK hm hy hyl hsw
  subst hs
  have u := g.u
  have hN := g.names
  simp only [mE] at h
  obtain ⟨c1, rfl⟩ := if_some hm
  obtain ⟨c1, t_c2⟩ := and_t c1
  obtain ⟨c2, c3⟩ := and_t t_c2
  obtain ⟨m1, c1⟩ := some_of c1
  obtain ⟨m3, c3, f3⟩ := frz_of c3
  split at h
  · rename_i elt tg iter ifs scope pos
    obtain ⟨h1, t_h2⟩ := and_t h
    obtain ⟨h2, t_h3⟩ := and_t t_h2
    obtain ⟨h3, t_h4⟩ := and_t t_h3
    obtain ⟨h4, t_h5⟩ := and_t t_h4
    obtain ⟨h5, t_h6⟩ := and_t t_h5
    obtain ⟨h6, h7⟩ := and_t t_h6
    have hown : (own.map fun i => (N.getD i (Str.ofString ""), i)).map (·.2) = own := by rw [List.map_map]; simp [Function.comp_def]
    have hp : ∀ i ∈ psl p, i ∈ (own.map fun i => (N.getD i (Str.ofString ""), i)).map (·.2) := fun i hi => by
      rw [hown]
      simpa using List.all_eq_true.mp h2 i hi
    have okb : BlkOk X.N X.env.scope scope (own.map fun i => (N.getD i (Str.ofString ""), i)) := by rw [hN]; exact blkOk_by h1
    have pe : ∀ (s : Shared) (H : Hp) (C : Addr) (cl : List (Str × Addr)) (fp : List Addr), PE (X.blk s H scope (compEnvC scope cl C X.env) fp) elt (tE K F0 H0 (setG Γ (psl p)) .frz (ev Φ el)) := fun s H C cl fp =>
      PE.fz f3 (S.ex h7 (g.blk s H scope _ fp) rfl hK c3)
    have fin : ∀ {fc : Env → Option Bool} {tt : TT}, (∀ (s : Shared) (H : Hp) (C : Addr) (cl : List (Str × Addr)) (fp : List Addr), PTs (X.blk s H scope (compEnvC scope cl C X.env) fp) ifs tt) → (∀ σ H Q, tB' K F0 H0 (setG Γ (psl p)) fc σ H Q → tt σ H Q) →
        (∀ ρ1, fc ρ1 = cF hc ((ev Φ c ρ1).bind tru)) → PS X (.Assign [.Name y py] (.ListComp elt [⟨tg, iter, ifs, 0⟩] scope pos) spos) (tAsg (tE K F0 H0 Γ .own (ev Φ (.lc own p it hc c el))) (gName iy)) := by
      intro fc tt ht htt hfc
      refine PS.evA (q_lcS g.calm g.nd hy hyl (hsw _ _ _ _ rfl) (S.it h5 g rfl hK c1) okb hp (pg_blk g hK h3) ht htt pe (noSet_ok h4)) fun ρ => ?_
      simp only [ev]
      rw [hown]
      have hfc2 : fc = fun ρ1 => cF hc ((ev Φ c ρ1).bind tru) := funext hfc
      rw [hfc2]
      cases hc <;> rfl
    split at h6
    · exact fin (fun _ _ _ _ _ => pts_nil) (fun σ H Q ⟨F, ρ, b, R, e1, q⟩ => by
        have e1 : some true = some b := e1
        cases e1
        exact q F H (.refl R.in_)) fun _ => rfl
    · have c2 : (md isF (setG Γ (psl p)) c).isSome = true := by simpa using c2
      obtain ⟨m2, c2⟩ := some_of c2
      exact fin (fun s H C cl fp => pts_one (S.ts h6 (g.blk s H scope _ fp) rfl hK c2).1) (fun _ _ _ z => z) fun _ => rfl
    · cases h6
  · cases h

theorem snd_dcS (S : Snd N isF Φ n) : ∀ {sc : Scope} {e : Expr} {own : List Nat} {p : P} {it kx vx : E}, mE N (n + 1) sc e (.dc own p it kx vx) = true → ∀ {X : Cx} {k : Nat} {K : PySem.W.Frag} {F0 H0 : Hp} {Γ : List O} {m : M} {iy : Nat} {y : Str} {py spos : Pos}, Good X N isF Φ k → X.env.scope = sc → X.K = K → md isF Γ (.dc own p it kx vx) = some m →
    X.N[iy]? = some y → X.env.scope.names.lookup y = some .local → (∀ a b gs scope pos, e = .DictComp a b gs scope pos → swapsWith e (some (.Name y py)) spos.line X.env = pure true) → PS X (.Assign [.Name y py] e spos) (tAsg (tE K F0 H0 Γ m (ev Φ (.dc own p it kx vx))) (gName iy)) := by
  intro sc e own p it kx vx h X k K F0 H0 Γ m iy y py spos g hs hK hm hy hyl hsw
  subst hs
  have u := g.u
  have hN := g.names
  simp only [mE] at h
  obtain ⟨c1, rfl⟩ := if_some hm
  obtain ⟨c1, t_c2⟩ := and_t c1
  obtain ⟨c2, c3⟩ := and_t t_c2
  obtain ⟨m1, c1⟩ := some_of c1
  obtain ⟨m2, c2⟩ := some_of c2
  obtain ⟨m3, c3, f3⟩ := frz_of c3
  split at h
  · rename_i ek ev_ tg iter scope pos
    obtain ⟨h1, t_h2⟩ := and_t h
    obtain ⟨h2, t_h3⟩ := and_t t_h2
    obtain ⟨h3, t_h4⟩ := and_t t_h3
    obtain ⟨h4, t_h5⟩ := and_t t_h4
    obtain ⟨h5, t_h6⟩ := and_t t_h5
    obtain ⟨h6, h7⟩ := and_t t_h6
    have hown : (own.map fun i => (N.getD i (Str.ofString ""), i)).map (·.2) = own := by rw [List.map_map]; simp [Function.comp_def]
    have hp : ∀ i ∈ psl p, i ∈ (own.map fun i => (N.getD i (Str.ofString ""), i)).map (·.2) := fun i hi => by
      rw [hown]
      simpa using List.all_eq_true.mp h2 i hi
    have okb : BlkOk X.N X.env.scope scope (own.map fun i => (N.getD i (Str.ofString ""), i)) := by rw [hN]; exact blkOk_by h1
    refine PS.evA (q_dcS g.calm g.nd hy hyl (hsw _ _ _ _ _ rfl) (S.it h5 g rfl hK c1) okb hp (pg_blk g hK h3) (fun s H C cl fp => PE.vw (S.ex h6 (g.blk s H scope _ fp) rfl hK c2)) (fun s H C cl fp => PE.fz f3 (S.ex h7 (g.blk s H scope _ fp) rfl hK c3)) (noSet_ok h4)) fun ρ => ?_
    simp only [ev]
    rw [hown]
    rfl
  · cases h

end
end Q
set_option autoImplicit false
set_option linter.all false
set_option maxRecDepth 100000
set_option maxHeartbeats 8000000
namespace Q
open PySem PySem.Spec PyProof.Rows L2
section
variable (isF : Sig) (fr : Bool)
mutual
def tyS : S → Option (List O) → List O → Option (Option (List O))
  | .asg i own e, _, Γ => (md isF Γ e).bind fun m => (aM own m).map fun o => some (Γ.set i o)
  | .unp is e, _, Γ => if ((md isF Γ e).map frzable).getD false then some (some (setG Γ is)) else none
  | .par i j oi oj a b, _, Γ => (md isF Γ a).bind fun ma => (aM oi ma).bind fun o1 => (md isF Γ b).bind fun mb => (aM oj mb).map fun o2 => some ((Γ.set i o1).set j o2)
  | .app i e, _, Γ => if decide (Γ[i]? = some .own) && ((md isF Γ e).map frzable).getD false then some (some Γ) else none
  | .ext i e, _, Γ => if decide (Γ[i]? = some .own) && ((md isF Γ e).map frzable).getD false then some (some Γ) else none
  | .put i k v, _, Γ => if decide (Γ[i]? = some .own) && ((md isF Γ k).isSome && ((md isF Γ v).map frzable).getD false) then some (some Γ) else none
  | .exp _, _, _ => none
  | .ite c a b, lp, Γ => if (md isF Γ c).isSome then (tyB a lp Γ).bind fun x => (tyB b lp Γ).bind fun y => jn x y else none
  | .whl inv c b, _, Γ => if leO inv Γ && (md isF inv c).isSome then (match tyB b (some inv) inv with
    | some none => some (some inv)
    | some (some Γ1) => if leO inv Γ1 then some (some inv) else none
    | none => none) else none
  | .for_ inv p it b, _, Γ => if leO inv Γ && ((md isF Γ it).map frzable).getD false then (match tyB b (some inv) (setG inv (psl p)) with
    | some none => some (some inv)
    | some (some Γ1) => if leO inv Γ1 then some (some inv) else none
    | none => none) else none
  | .ret e, _, Γ => (md isF Γ e).bind fun m => if rM fr m then some none else none
  | .pass, _, Γ => some (some Γ)
  | .brk, lp, Γ => lp.bind fun inv => if leO inv Γ then some none else none
  | .cnt, lp, Γ => lp.bind fun inv => if leO inv Γ then some none else none
  | .frz _, _, _ => none
termination_by structural s => s
def tyB : B → Option (List O) → List O → Option (Option (List O))
  | .nil, _, Γ => some (some Γ)
  | .cons s r, lp, Γ => match s with
    | .frz i => if decide (Γ[i]? = some .own) then tyB r lp (Γ.set i .frz) else none
    | s => (tyS s lp Γ).bind fun
      | none => some none
      | some Γ1 => tyB r lp Γ1
termination_by structural b => b
end
end

def locS (sc : Scope) (x : Str) : Bool := match sc.names.lookup x with
  | some .local => true
  | some .cell => true
  | _ => false
def lclB (sc : Scope) (x : Str) : Bool := match sc.names.lookup x with
  | some .local => true
  | _ => false
def celB (sc : Scope) (x : Str) : Bool := match sc.names.lookup x with
  | some .cell => true
  | _ => false
def funB (sc : Scope) : Bool := match sc.kind with
  | .function => true
  | _ => false
def noComp : Expr → Bool
  | .ListComp _ _ _ _ => false
  | .SetComp _ _ _ _ => false
  | .DictComp _ _ _ _ _ => false
  | _ => true
def noTup : Expr → Bool
  | .Tuple _ _ _ => false
  | _ => true
def capB (scope : Scope) (x : Str) : Bool := scope.names.any fun (n, k) => n == x && (k == .local || k == .cell)
def swT (x : Str) (px : Pos) : Expr → Bool
  | .ListComp _ _ scope pos => (px.line == pos.line) && !capB scope x
  | .DictComp _ _ _ scope pos => (px.line == pos.line) && !capB scope x
  | _ => false
section
variable (N : List Str)
mutual
def mS : Nat → Scope → Stmt → S → Bool
  | 0, _, _, _ => false
  | n + 1, sc, st, s => match s with
    | .asg i _ e => match st with
      | .Assign [.Name x px] v _ => decide (N[i]? = some x) && (locS sc x && (mE N n sc v e && (noComp v || (funB sc && (celB sc x || (lclB sc x && (swT x px v && (match e with
        | .lc _ _ _ _ _ _ => true
        | .dc _ _ _ _ _ => true
        | _ => false)))))))) 
      | _ => false
    | .unp is e => match st with
      | .Assign [.Tuple es _ _] v _ => mTg N (locS sc) es is && (noTup v && mE N n sc v e)
      | _ => false
    | .par i j _ _ a b => match st with
      | .Assign [.Tuple [.Name x px, .Name y py] _ _] (.Tuple [va, vb] _ _) _ => decide (N[i]? = some x) && (decide (N[j]? = some y) && (decide (i ≠ j) && (funB sc && (noStar va && (noStar vb && (mE N n sc va a && (mE N n sc vb b &&
        ((lclB sc x && (lclB sc y && ((py.line == px.line) && (!(x == y) && (!([va, vb].all (foldedForSure 8)) && !([va, vb].all (constantsAlone 8))))))) || (locS sc x && (locS sc y && (celB sc x || celB sc y)))))))))))
      | _ => false
    | .app i e => match st with
      | .Expr (.Call (.Attribute (.Name x _) m apos) [v] [] cpos) _ => decide (m = ("append" : Str)) && (decide (N[i]? = some x) && (visB sc x && (plainN x && ((apos.endLine == cpos.line) && (noStar v && mE N n sc v e)))))
      | _ => false
    | .ext i e => match st with
      | .Expr (.Call (.Attribute (.Name x _) m apos) [v] [] cpos) _ => decide (m = ("extend" : Str)) && (decide (N[i]? = some x) && (visB sc x && (plainN x && ((apos.endLine == cpos.line) && (noStar v && mE N n sc v e)))))
      | _ => false
    | .put i k v => match st with
      | .Assign [.Subscript (.Name x _) ek _] v' _ => decide (N[i]? = some x) && (visB sc x && (plainN x && (mE N n sc ek k && mE N n sc v' v)))
      | _ => false
    | .exp _ => false
    | .ite c a b => match st with
      | .If t p q _ => mE N n sc t c && (mB n sc p a && mB n sc q b)
      | _ => false
    | .whl _ c b => match st with
      | .While t p [] _ => mE N n sc t c && mB n sc p b
      | _ => false
    | .for_ _ p it b => match st with
      | .For tg iter body [] _ => mP N (locS sc) tg p && (noSet iter && (mI N n sc iter it && mB n sc body b))
      | _ => false
    | .ret e => match st with
      | .Return (some v) _ => mE N n sc v e
      | _ => false
    | .pass => match st with
      | .Pass _ => true
      | _ => false
    | .brk => match st with
      | .Break _ => true
      | _ => false
    | .cnt => match st with
      | .Continue _ => true
      | _ => false
    | .frz _ => false
def mB : Nat → Scope → List Stmt → B → Bool
  | 0, _, _, _ => false
  | n + 1, sc, sts, b => match b with
    | .nil => match sts with
      | [] => true
      | _ => false
    | .cons s r => match s with
      | .frz _ => mB n sc sts r
      | s => match sts with
        | st :: rest => mS n sc st s && mB n sc rest r
        | [] => false
end
end
section
variable {X : Cx}
theorem locS_ok {x : Str} (h : locS X.env.scope x = true) : Loc X.env.scope x := by
  unfold locS at h
  split at h
  · exact .inl (by assumption)
  · exact .inr (by assumption)
  · cases h
theorem lclB_ok {sc : Scope} {x : Str} (h : lclB sc x = true) : sc.names.lookup x = some .local := by
  unfold lclB at h
  split at h
  · assumption
  · cases h
theorem celB_ok {sc : Scope} {x : Str} (h : celB sc x = true) : sc.names.lookup x = some .cell := by
  unfold celB at h
  split at h
  · assumption
  · cases h
theorem funB_ok {sc : Scope} (h : funB sc = true) : sc.kind = .function := by
  unfold funB at h
  split at h
  · assumption
  · cases h
theorem blockK {env : PySem.Env} (h : env.scope.kind = .function) : env.blockKind = .function := by unfold Env.blockKind; rw [h]; rfl
theorem sw_no {v : Expr} {t : Option Expr} {l : Nat} {env : PySem.Env} (h : noComp v = true) : swapsWith v t l env = pure false := by cases v <;> first | rfl | cases h
theorem sw_cell {v : Expr} {x : Str} {px : Pos} {l : Nat} {env : PySem.Env} (h : env.scope.names.lookup x = some .cell) : swapsWith v (some (.Name x px)) l env = pure false := by
  have ky : env.kindOf x = some .cell := h
  cases hv : noComp v with
  | true => exact sw_no hv
  | false =>
    unfold swapsWith
    cases v <;> first | (cases hv; done) | (show pure (env.blockKind == ScopeKind.function && env.kindOf x == some NameKind.local && _ && _) = pure false; rw [ky]; cases env.blockKind <;> rfl)
theorem sw_tup {v : Expr} {es : List Expr} {k : Nat} {p : Pos} {l : Nat} {env : PySem.Env} : swapsWith v (some (.Tuple es k p)) l env = pure false := by cases v <;> rfl
theorem sw_sub {v a b : Expr} {p : Pos} {l : Nat} {env : PySem.Env} : swapsWith v (some (.Subscript a b p)) l env = pure false := by cases v <;> rfl
theorem ss_no {v : Expr} {es : List Expr} {k : Nat} {p : Pos} {env : PySem.Env} (h : noTup v = true) : swappedStores [.Tuple es k p] v env = pure none := by cases v <;> first | rfl | cases h
theorem sw_lc {elt : Expr} {gs : List Comprehension} {scope : Scope} {pos py : Pos} {y : Str} {l : Nat} {env : PySem.Env} (hk : env.scope.kind = .function) (hy : env.scope.names.lookup y = some .local) (h : swT y py (.ListComp elt gs scope pos) = true) : swapsWith (.ListComp elt gs scope pos) (some (.Name y py)) l env = pure true := by
  obtain ⟨h1, h2⟩ := and_t (show (_ && _) = true from h)
  exact sw_true hk hy h1 (not_t h2)
theorem sw_dc {kx vx : Expr} {gs : List Comprehension} {scope : Scope} {pos py : Pos} {y : Str} {l : Nat} {env : PySem.Env} (hk : env.scope.kind = .function) (hy : env.scope.names.lookup y = some .local) (h : swT y py (.DictComp kx vx gs scope pos) = true) : swapsWith (.DictComp kx vx gs scope pos) (some (.Name y py)) l env = pure true := by
  obtain ⟨h1, h2⟩ := and_t (show (_ && _) = true from h)
  have ky : env.kindOf y = some .local := hy
  have hb := blockK hk
  have h2 := not_t h2
  unfold capB at h2
  unfold swapsWith
  simp only [hb, ky, h2, Expr.pos, h1]
  rfl
theorem ss_sw {x y : Str} {px py p p2 : Pos} {k k2 : Nat} {a b : Expr} {env : PySem.Env} (hk : env.scope.kind = .function) (hx : env.scope.names.lookup x = some .local) (hy : env.scope.names.lookup y = some .local) (hl : (py.line == px.line) = true) (hxy : (x == y) = false)
    (ha : noStar a = true) (hb : noStar b = true) (h1 : [a, b].all (foldedForSure 8) = false) (h2 : [a, b].all (constantsAlone 8) = false) : swappedStores [.Tuple [.Name x px, .Name y py] k p] (.Tuple [a, b] k2 p2) env = pure (some [x, y]) := by
  have kx : env.kindOf x = some .local := hx
  have ky : env.kindOf y = some .local := hy
  have hB := blockK hk
  have s1 : ([a, b].any fun | .Starred .. => true | _ => false) = false := by
    cases a <;> first | (cases ha; done) | (cases b <;> first | rfl | cases hb)
  have hyx : (y == x) = false := by
    rw [beq_eq_false_iff_ne] at hxy ⊢
    exact fun z => hxy z.symm
  have e1 : List.filterMap (fun e => match e with
      | .Name id pos => if env.kindOf id == some .local && pos.line == px.line then some id else none
      | _ => none) [Expr.Name x px, .Name y py] = [x, y] := by
    simp [List.filterMap, kx, ky, hl]
  have e2 : [x, y].eraseDups.length = 2 := by
    simp [List.eraseDups, List.eraseDupsBy, List.eraseDupsBy.loop, hxy, hyx]
  unfold swappedStores
  simp only [hB]
  generalize hL : List.filterMap _ [Expr.Name x px, Expr.Name y py] = L
  have hL2 : L = [x, y] := hL.symm.trans e1
  subst hL2
  refine (if_neg (show ¬ (false = true) from Bool.false_ne_true)).trans ?_
  refine (if_neg (fun z => Bool.false_ne_true (s1.symm.trans z))).trans ?_
  refine (if_neg (by rw [e2]; exact (show ¬ (false = true) from Bool.false_ne_true))).trans ?_
  refine (if_neg (fun z => Bool.false_ne_true (h1.symm.trans z))).trans ?_
  exact if_neg (fun z => Bool.false_ne_true (h2.symm.trans z))
theorem ss_ns {x y : Str} {px py p p2 : Pos} {k k2 : Nat} {a b : Expr} {env : PySem.Env} (h : env.scope.names.lookup x = some .cell ∨ env.scope.names.lookup y = some .cell) : swappedStores [.Tuple [.Name x px, .Name y py] k p] (.Tuple [a, b] k2 p2) env = pure none := by
  have kc : ∀ z, env.scope.names.lookup z = some .cell → (env.kindOf z == some NameKind.local) = false := fun z hz => by
    have : env.kindOf z = some .cell := hz
    rw [this]; rfl
  unfold swappedStores
  simp only []
  generalize hL : List.filterMap _ [Expr.Name x px, Expr.Name y py] = L
  have hL2 : L.length ≠ 2 := by
    subst hL
    rcases h with h | h
    · simp only [List.filterMap_cons, List.filterMap_nil, kc x h, Bool.false_and]
      simp
      split <;> simp
    · simp only [List.filterMap_cons, List.filterMap_nil, kc y h, Bool.false_and]
      simp
      split <;> simp
  split
  · rfl
  · split
    · rfl
    · refine if_pos ?_
      have : (L.length != 2) = true := by simpa using hL2
      show (L.length != 2 || _) = true
      rw [this]; rfl
end
end Q
set_option autoImplicit false
set_option linter.all false
set_option maxRecDepth 100000
set_option maxHeartbeats 8000000
namespace Q
open PySem PySem.Spec PyProof.Rows L2
section
variable {X : Cx} {K : PySem.W.Frag} {F0 H0 : Hp} {Γ : List O} {tg l a b : Expr} {fa fb : Env → Option D} {pos p2 : Pos}
theorem q_itF (hK : X.K = K) (hl : PE X l (tE K F0 H0 Γ .frz fa)) : PI X tg l (tIF K F0 H0 Γ fun ρ => (fa ρ).bind itemsD) := by
  subst hK
  refine ⟨fun pins s σ H R I ⟨F, ρ, ds, Rr, e1, q⟩ => ?_⟩
  simp only [Option.bind_eq_some_iff] at e1
  obtain ⟨d, ed, e2⟩ := e1
  refine thn (hl.run pins s σ H (fun v H1 => ∃ F1, Step F H F1 H1 ∧ Rp X.K F1 v d) I ⟨F, ρ, d, Rr, ed, fun v F1 H1 s1 w1 => ⟨F1, s1, w1⟩⟩) fun u s1 ⟨x, H1, I1, r1, F1, st, w⟩ => ?_
  cases d with
  | list xs =>
    cases e2
    cases w with
    | lst hc rc =>
      cases r1
      obtain ⟨its, rv, pl, hz⟩ := I1.list (.inl (.inl (st.in_ _ _ hc)))
      refine wpAny_pyIter_list pl.isList ⟨s1.heap.objs.size, [s1.heap.objs.size], _, _, H1, rfl, I1.kept (t' := s1.toks) (fun b o e => Heap.get?_push_of_some _ e), turn_list _ _, ⟨_, Heap.get?_push_size _ rfl, rfl, rfl⟩, fun z hz2 => ?_, ?_⟩
      · have e : z = s1.heap.objs.size := by simpa using hz2
        rw [e]
        exact I1.fpOk (Nat.le_refl _) (I1.hok.fresh (Nat.le_refl _))
      · exact q _ F1 H1 _ st (only_same hc) (it_list rc) (by rw [← rc.length, ← sl_eq]; exact hz)
  | tuple xs =>
    cases e2
    cases w with
    | tup hc rc =>
      cases r1
      have hc2 := seqT_mono st.in_ hc
      obtain ⟨its, rv, pl, hz⟩ := I1.tuple hc2
      refine wpAny_pyIter_tuple (show s1.heap.IsTuple _ its.toArray from pl) ⟨s1.heap.objs.size, [s1.heap.objs.size], _, _, H1, rfl, I1.kept (t' := s1.toks) (fun b o e => Heap.get?_push_of_some _ e), turn_tuple _ _, ⟨_, Heap.get?_push_size _ rfl, rfl, rfl⟩, fun z hz2 => ?_, ?_⟩
      · have e : z = s1.heap.objs.size := by simpa using hz2
        rw [e]
        exact I1.fpOk (Nat.le_refl _) (I1.hok.fresh (Nat.le_refl _))
      · exact q _ F1 H1 F1 st (.refl _) (it_tup hc rc) (by rw [← rc.length, ← sl_eq]; exact hz)
  | _ => cases e2
theorem q_rng1F (hg : Gl X "range") (hm : X.mg "range" = none) (hs : starEach [a] X.env = [(false, eval a X.env)]) (ha : PE X a (tV K F0 H0 Γ fa)) :
    PI X tg (.Call (.Name "range" p2) [a] [] pos) (tIF K F0 H0 Γ fun ρ => ((fa ρ).bind fun
      | .int j => (rngD 0 j).map PyData.list
      | _ => none).bind itemsD) := by
  have h := pi_range1 (tg := tg) (p := p2) (pos := pos) hg hm (pa_cons ha pa_nil hs) hs
  refine ⟨fun pins s σ H R I ⟨F, ρ, ds, Rr, e1, q⟩ => h.run pins s σ H R I ?_⟩
  simp only [Option.bind_eq_some_iff] at e1
  obtain ⟨d, ⟨x, ex, e3⟩, e4⟩ := e1
  refine ⟨F, ρ, x, Rr, ex, fun v F1 H1 s1 w1 => ?_⟩
  cases x with
  | int j =>
    simp only [Option.map_eq_some_iff] at e3
    obtain ⟨es, e5, rfl⟩ := e3
    cases e4
    obtain ⟨⟨b1, b2, b3, b4, b5⟩, e6⟩ := rng_some e5
    have := w1.int
    subst this
    refine ⟨j, rfl, by omega, by omega, ?_⟩
    have e7 : ds = (List.range j.toNat).map fun k => PyData.int (0 + (k : Nat)) := by rw [e6, Int.sub_zero]
    rw [e7] at q
    exact q _ F1 H1 (fun _ => none) s1 (fun _ _ z => by cases z) it_rng (by rw [List.length_map, List.length_range]; show _ ≤ 16777216; omega)
  | _ => cases e3
theorem q_rng2F (hg : Gl X "range") (hm : X.mg "range" = none) (hs : starEach [a, b] X.env = [(false, eval a X.env), (false, eval b X.env)]) (hs2 : starEach [b] X.env = [(false, eval b X.env)]) (ha : PE X a (tV K F0 H0 Γ fa)) (hb : PE X b (tV K F0 H0 Γ fb)) :
    PI X tg (.Call (.Name "range" p2) [a, b] [] pos) (tIF K F0 H0 Γ fun ρ => ((fa ρ).bind fun
      | .int i => (fb ρ).bind fun
        | .int j => (rngD i j).map PyData.list
        | _ => none
      | _ => none).bind itemsD) := by
  have h := pi_range2 (tg := tg) (p := p2) (pos := pos) hg hm (pa_cons ha (pa_cons hb pa_nil hs2) (by rw [hs, hs2])) hs hs2
  refine ⟨fun pins s σ H R I ⟨F, ρ, ds, Rr, e1, q⟩ => h.run pins s σ H R I ?_⟩
  simp only [Option.bind_eq_some_iff] at e1
  obtain ⟨d, ⟨x, ex, e3⟩, e4⟩ := e1
  refine ⟨F, ρ, x, Rr, ex, fun v F1 H1 s1 w1 => ?_⟩
  cases x with
  | int i =>
    simp only [Option.bind_eq_some_iff] at e3
    obtain ⟨y, ey, e3⟩ := e3
    refine ⟨F1, ρ, y, Rr.step s1, ey, fun u F2 H2 s2 w2 => ?_⟩
    cases y with
    | int j =>
      simp only [Option.map_eq_some_iff] at e3
      obtain ⟨es, e5, rfl⟩ := e3
      cases e4
      obtain ⟨⟨b1, b2, b3, b4, b5⟩, e6⟩ := rng_some e5
      have := w1.int
      subst this
      have := w2.int
      subst this
      refine ⟨i, j, rfl, ⟨by omega, by omega, by omega, by omega⟩, ?_⟩
      rw [e6] at q
      exact q _ F2 H2 (fun _ => none) (s1.trans s2) (fun _ _ z => by cases z) it_rng (by rw [List.length_map, List.length_range]; show _ ≤ 16777216; omega)
    | _ => cases e3
  | _ => cases e3
end
section
variable {N : List Str} {isF : Sig} {Φ : Fns} {n : Nat}
theorem snd_itF (S : Snd N isF Φ n) : ∀ {sc : Scope} {e : Expr} {t : E}, mI N (n + 1) sc e t = true → ∀ {X : Cx} {k : Nat} {K : PySem.W.Frag} {F0 H0 : Hp} {Γ : List O} {m : M} {tg : Expr}, Good X N isF Φ k → X.env.scope = sc → X.K = K → md isF Γ t = some m → frzable m = true → PI X tg e (tIF K F0 H0 Γ fun ρ => (ev Φ t ρ).bind itemsD) := by
  intro sc e t h X k K F0 H0 Γ m tg g hs hK hm hz
  have gen : mE N n sc e t = true → PI X tg e (tIF K F0 H0 Γ fun ρ => (ev Φ t ρ).bind itemsD) := fun h => q_itF hK (PE.fz hz (S.ex h g hs hK hm))
  cases t with
  | rng1 a =>
    simp only [mI] at h
    split at h
    · obtain ⟨a1, a2⟩ := and_t h
      obtain ⟨b1, b2⟩ := and_t a2
      obtain ⟨c1, c2⟩ := and_t b2
      have d1 := dec_t a1
      subst d1
      subst hs
      simp only [md, Option.map_eq_some_iff] at hm
      obtain ⟨m1, hm1, _⟩ := hm
      exact q_rng1F (glB_ok b1) (blt_of g _ (by decide +kernel)) (star_cons c1) (PE.vw (S.ex c2 g rfl hK hm1))
    · cases h
  | rng2 a b =>
    simp only [mI] at h
    split at h
    · obtain ⟨a1, a2⟩ := and_t h
      obtain ⟨b1, b2⟩ := and_t a2
      obtain ⟨c1, c2⟩ := and_t b2
      obtain ⟨e1, e2⟩ := and_t c2
      obtain ⟨f1, f2⟩ := and_t e2
      have d1 := dec_t a1
      subst d1
      subst hs
      simp only [md] at hm
      split at hm
      · rename_i c
        obtain ⟨c3, c4⟩ := and_t c
        obtain ⟨m1, c3⟩ := some_of c3
        obtain ⟨m2, c4⟩ := some_of c4
        exact q_rng2F (glB_ok b1) (blt_of g _ (by decide +kernel)) (by rw [star_cons c1, star_cons e1]; rfl) (star_cons e1) (PE.vw (S.ex f1 g rfl hK c3)) (PE.vw (S.ex f2 g rfl hK c4))
      · cases hm
    · cases h
  | _ => exact gen h
theorem md_pl {isF : Sig} {Γ : List O} {t : E} {i : Nat} (h : md isF Γ t = some (.pl i)) : t = .var i ∧ Γ[i]? = some .own := by
  have nope : ∀ {b : Bool} {m : M}, (if b then some m else none) = some (M.pl i) → m ≠ .pl i → False := fun {b m} z hn => by
    cases b with
    | true => exact hn (Option.some.inj z)
    | false => cases z
  have nop2 : ∀ {o : Option M} {m : M}, (o.map fun _ => m) = some (M.pl i) → m ≠ .pl i → False := fun {o m} z hn => by
    cases o with
    | none => cases z
    | some _ => exact hn (Option.some.inj z)
  cases t with
  | var j =>
    simp only [md] at h
    split at h
    · cases h
    · rename_i z
      cases h
      exact ⟨rfl, z⟩
    · cases h
  | call m g es =>
    simp only [md] at h
    split at h
    · cases h
    · rename_i np fr _
      split at h
      · exact (nope h (by cases fr <;> simp)).elim
      · exact (nope h (by simp)).elim
      · exact (nope h (by simp)).elim
  | non => cases h
  | bl b => cases h
  | int b => cases h
  | str b => cases h
  | dc0 => cases h
  | _ => simp only [md] at h; first | exact (nope h (by simp)).elim | exact (nop2 h (by simp)).elim
end
end Q
set_option autoImplicit false
set_option linter.all false
set_option maxRecDepth 100000
set_option maxHeartbeats 8000000
namespace Q
open PySem PySem.Spec PyProof.Rows L2
section
variable {N : List Str} {isF : Sig} {Φ : Fns} {fr : Bool} {W n : Nat}
structure SndS (N : List Str) (isF : Sig) (Φ : Fns) (fr : Bool) (W n : Nat) : Prop where
  st : ∀ {sc : Scope} {st : Stmt} {s : S}, mS N n sc st s = true → ∀ {X : Cx} {k : Nat} {K : PySem.W.Frag} {F0 H0 : Hp} {Γ : List O} {lp Γn : Option (List O)}, Good X N isF Φ k → X.env.scope = sc → X.K = K → (∀ x, X.fn x = true) → PassesOwn (model X.prog X.w) X.A X.env X.xe → tyS isF fr s lp Γ = some Γn →
    PS X st (tS K F0 H0 Γ fr lp Γn (ex Φ W s))
  bl : ∀ {sc : Scope} {sts : List Stmt} {b : B}, mB N n sc sts b = true → ∀ {X : Cx} {k : Nat} {K : PySem.W.Frag} {F0 H0 : Hp} {Γ : List O} {lp Γn : Option (List O)}, Good X N isF Φ k → X.env.scope = sc → X.K = K → (∀ x, X.fn x = true) → PassesOwn (model X.prog X.w) X.A X.env X.xe → tyB isF fr b lp Γ = some Γn →
    PSs X sts (tS K F0 H0 Γ fr lp Γn (exB Φ W b))
theorem PS.ex {X : Cx} {K : PySem.W.Frag} {F0 H0 : Hp} {Γ : List O} {lp Γn : Option (List O)} {st : Stmt} {g g' : Env → Option R} (h : PS X st (tS K F0 H0 Γ fr lp Γn g)) (hg : ∀ ρ, g' ρ = g ρ) : PS X st (tS K F0 H0 Γ fr lp Γn g') := by
  have : g' = g := funext hg
  rw [this]; exact h
theorem PSs.ex {X : Cx} {K : PySem.W.Frag} {F0 H0 : Hp} {Γ : List O} {lp Γn : Option (List O)} {st : List Stmt} {g g' : Env → Option R} (h : PSs X st (tS K F0 H0 Γ fr lp Γn g)) (hg : ∀ ρ, g' ρ = g ρ) : PSs X st (tS K F0 H0 Γ fr lp Γn g') := by
  have : g' = g := funext hg
  rw [this]; exact h
theorem sw_sole {v : Expr} {es : List Expr} {k : Nat} {p : Pos} {l : Nat} {env : PySem.Env} : swapsWithSole [.Tuple es k p] v l env = pure false := by cases v <;> rfl
def headB (N : List Str) (n : Nat) (sc : Scope) (sts : List Stmt) (s : Q.S) (r : B) : Bool := match sts with
  | st :: rest => mS N n sc st s && mB N n sc rest r
  | [] => false
theorem frz_get {o : Option M} (h : (o.map frzable).getD false = true) : ∃ m, o = some m ∧ frzable m = true := frz_of h
theorem snd_st (S : SndS N isF Φ fr W n) : ∀ {sc : Scope} {st : Stmt} {s : Q.S}, mS N (n + 1) sc st s = true → ∀ {X : Cx} {k : Nat} {K : PySem.W.Frag} {F0 H0 : Hp} {Γ : List O} {lp Γn : Option (List O)}, Good X N isF Φ k → X.env.scope = sc → X.K = K → (∀ x, X.fn x = true) → PassesOwn (model X.prog X.w) X.A X.env X.xe → tyS isF fr s lp Γ = some Γn →
    PS X st (tS K F0 H0 Γ fr lp Γn (Q.ex Φ W s)) := by
  intro sc st s h X k K F0 H0 Γ lp Γn g hs hK hfn hp ht
  subst hs
  have u := g.u
  have hN := g.names
  have SE := snd N isF Φ n
  have sto : Sto X (locS X.env.scope) := fun x hx => ⟨locS_ok hx, .inl (hfn x)⟩
  cases s with
  | asg i own e =>
    simp only [tyS, Option.bind_eq_some_iff, Option.map_eq_some_iff] at ht
    obtain ⟨m, hm, o, ho, rfl⟩ := ht
    simp only [mS] at h
    split at h
    · rename_i x px v pos
      obtain ⟨h1, t2⟩ := and_t h
      obtain ⟨h2, t3⟩ := and_t t2
      obtain ⟨h3, h4⟩ := and_t t3
      have h1 : X.N[i]? = some x := by rw [hN]; exact dec_t h1
      have base : swapsWith v (some (.Name x px)) pos.line X.env = pure false → PS X (.Assign [.Name x px] v pos) (tS K F0 H0 Γ fr lp (some (Γ.set i o)) (kS (ev Φ e) i)) := fun hsw =>
        s_asg ho (ps_set g.nd h1 (locS_ok h2) (SE.ex h3 g rfl hK hm) hsw (.inl (hfn x)))
      refine PS.ex (g := kS (ev Φ e) i) ?_ fun ρ => by simp only [Q.ex] <;> rfl
      rw [Bool.or_eq_true] at h4
      rcases h4 with h4 | h4
      · exact base (sw_no h4)
      · obtain ⟨hk, h4⟩ := and_t h4
        rw [Bool.or_eq_true] at h4
        rcases h4 with h4 | h4
        · exact base (sw_cell (celB_ok h4))
        · obtain ⟨hl, h5⟩ := and_t h4
          obtain ⟨hsw, h6⟩ := and_t h5
          cases n with
          | zero => cases h3
          | succ n =>
            have SE := snd N isF Φ n
            cases e with
            | lc o1 p it hc c el => exact s_asg ho (snd_lcS SE h3 g rfl hK hm h1 (lclB_ok hl) fun elt gs scope pos he => by subst he; exact sw_lc (funB_ok hk) (lclB_ok hl) hsw)
            | dc o1 p it kx vx => exact s_asg ho (snd_dcS SE h3 g rfl hK hm h1 (lclB_ok hl) fun a b gs scope pos he => by subst he; exact sw_dc (funB_ok hk) (lclB_ok hl) hsw)
            | _ => cases h6
    · cases h
  | unp is e =>
    simp only [tyS] at ht
    split at ht
    · rename_i hf
      cases ht
      obtain ⟨m, hm, hz⟩ := frz_of hf
      simp only [mS] at h
      split at h
      · rename_i es kk pp v pos
        obtain ⟨h1, t2⟩ := and_t h
        obtain ⟨h2, h3⟩ := and_t t2
        rw [← hN] at h1
        obtain ⟨g1, g2, g3⟩ := pgs_of g.nd sto h1
        have pv := PE.fz hz (SE.ex h3 g rfl hK hm) (F0 := F0) (H0 := H0)
        subst hK
        refine PS.ex (s_unp (f := ev Φ e) (is := is) (ps_asg pv (pg_tup g.calm g1 g2 g3) sw_sole (ss_no h2) rfl) (ps_asg pv (pg_lst g.calm g1 g2 g3) sw_sole (ss_no h2) rfl)) fun ρ => by simp only [Q.ex]
      · cases h
    · cases ht
  | par i j oi oj a b =>
    simp only [tyS, Option.bind_eq_some_iff, Option.map_eq_some_iff] at ht
    obtain ⟨ma, hma, o1, ho1, mb, hmb, o2, ho2, rfl⟩ := ht
    simp only [mS] at h
    split at h
    · rename_i x px y py kt pt va vb k2 p2 pos
      obtain ⟨h1, t2⟩ := and_t h
      obtain ⟨h2, t3⟩ := and_t t2
      obtain ⟨h3, t4⟩ := and_t t3
      obtain ⟨h4, t5⟩ := and_t t4
      obtain ⟨h5, t6⟩ := and_t t5
      obtain ⟨h6, t7⟩ := and_t t6
      obtain ⟨h7, t8⟩ := and_t t7
      obtain ⟨h8, h9⟩ := and_t t8
      have h1 : X.N[i]? = some x := by rw [hN]; exact dec_t h1
      have h2 : X.N[j]? = some y := by rw [hN]; exact dec_t h2
      have h3 := dec_t h3
      have hk := funB_ok h4
      have sab : starEach [va, vb] X.env = (false, eval va X.env) :: starEach [vb] X.env := star_cons h5
      have pa : PA X [va, vb] (tCons (tE K F0 H0 Γ ma (ev Φ a)) (tCons (tE K F0 H0 Γ mb (ev Φ b)) tNil)) := pa_cons (SE.ex h7 g rfl hK hma) (pa_cons (SE.ex h8 g rfl hK hmb) pa_nil (star_cons h6)) sab
      refine PS.ex (g := kP i j (ev Φ a) (ev Φ b)) ?_ fun ρ => by simp only [Q.ex] <;> rfl
      rw [Bool.or_eq_true] at h9
      rcases h9 with h9 | h9
      · obtain ⟨l1, t1⟩ := and_t h9
        obtain ⟨l2, t2⟩ := and_t t1
        obtain ⟨l3, t3⟩ := and_t t2
        obtain ⟨l4, t4⟩ := and_t t3
        obtain ⟨l5, l6⟩ := and_t t4
        exact s_par ho1 ho2 (ps_par g.calm g.nd h1 h2 h3 (lclB_ok l1) (lclB_ok l2) pa (ss_sw hk (lclB_ok l1) (lclB_ok l2) l3 (not_t l4) h5 h6 (not_t l5) (not_t l6)) sw_sole)
      · obtain ⟨l1, t1⟩ := and_t h9
        obtain ⟨l2, l3⟩ := and_t t1
        have hc : X.env.scope.names.lookup x = some .cell ∨ X.env.scope.names.lookup y = some .cell := by
          rw [Bool.or_eq_true] at l3
          exact l3.imp celB_ok celB_ok
        subst hK
        have g1 : PGs X [.Name x px, .Name y py] (gSeq [i, j]) := pgs_cons (pg_name g.nd h1 (locS_ok l1) (.inl (hfn x))) (pgs_cons (pg_name g.nd h2 (locS_ok l2) (.inl (hfn y))) pgs_nil)
        exact s_parT ho1 ho2 (ps_asg (pe_tup pa) (pg_tup g.calm g1 rfl rfl) sw_sole (ss_ns hc) rfl)
    · cases h
  | app i e =>
    simp only [tyS] at ht
    split at ht
    · rename_i hf
      cases ht
      obtain ⟨hΓ, hf⟩ := and_t hf
      obtain ⟨m, hm, hz⟩ := frz_of hf
      have hΓ := dec_t hΓ
      simp only [mS] at h
      split at h
      · rename_i x px mm apos v cpos pos
        obtain ⟨h1, t2⟩ := and_t h
        obtain ⟨h2, t3⟩ := and_t t2
        obtain ⟨h3, t4⟩ := and_t t3
        obtain ⟨h4, t5⟩ := and_t t4
        obtain ⟨h5, t6⟩ := and_t t5
        obtain ⟨h6, h7⟩ := and_t t6
        obtain ⟨d1, d2⟩ := plainN_ok h4
        have h1 := dec_t h1
        subst h1
        have h2 : X.N[i]? = some x := by rw [hN]; exact dec_t h2
        have pv := PE.fz hz (SE.ex h7 g rfl hK hm) (F0 := F0) (H0 := H0)
        have px := q_var (K := K) (F0 := F0) (H0 := H0) (pos := px) h2 (visB_ok h3) d1 d2 hΓ (by decide)
        subst hK
        refine PS.ex (s_app (f := ev Φ e) hΓ (ps_expr (pe_bm PySem.F.plainAttrs_list PySem.F.slot_list_append PySem.F.type_list_append mt_append px (pa_cons pv pa_nil (star_cons h6)) rfl (by rw [star_cons h6]; rfl) h5 (star_cons h6) rfl) rfl)) fun ρ => by simp only [Q.ex] <;> rfl
      · cases h
    · cases ht
  | ext i e =>
    simp only [tyS] at ht
    split at ht
    · rename_i hf
      cases ht
      obtain ⟨hΓ, hf⟩ := and_t hf
      obtain ⟨m, hm, hz⟩ := frz_of hf
      have hΓ := dec_t hΓ
      simp only [mS] at h
      split at h
      · rename_i x px mm apos v cpos pos
        obtain ⟨h1, t2⟩ := and_t h
        obtain ⟨h2, t3⟩ := and_t t2
        obtain ⟨h3, t4⟩ := and_t t3
        obtain ⟨h4, t5⟩ := and_t t4
        obtain ⟨h5, t6⟩ := and_t t5
        obtain ⟨h6, h7⟩ := and_t t6
        obtain ⟨d1, d2⟩ := plainN_ok h4
        have h1 := dec_t h1
        subst h1
        have h2 : X.N[i]? = some x := by rw [hN]; exact dec_t h2
        have pv := PE.fz hz (SE.ex h7 g rfl hK hm) (F0 := F0) (H0 := H0)
        have px := q_var (K := K) (F0 := F0) (H0 := H0) (pos := px) h2 (visB_ok h3) d1 d2 hΓ (by decide)
        subst hK
        refine PS.ex (s_ext (f := ev Φ e) hΓ (ps_expr (pe_bm PySem.F.plainAttrs_list PySem.F.slot_list_extend PySem.F.type_list_extend mt_extend px (pa_cons pv pa_nil (star_cons h6)) rfl (by rw [star_cons h6]; rfl) h5 (star_cons h6) rfl) rfl)) fun ρ => by simp only [Q.ex] <;> rfl
      · cases h
    · cases ht
  | put i kx v =>
    simp only [tyS] at ht
    split at ht
    · rename_i hf
      cases ht
      obtain ⟨hΓ, hf⟩ := and_t hf
      obtain ⟨hk, hf⟩ := and_t hf
      obtain ⟨m, hm, hz⟩ := frz_of hf
      obtain ⟨m2, hm2⟩ := some_of hk
      have hΓ := dec_t hΓ
      simp only [mS] at h
      split at h
      · rename_i x px ek sp v' pos
        obtain ⟨h2, t3⟩ := and_t h
        obtain ⟨h3, t4⟩ := and_t t3
        obtain ⟨h4, t5⟩ := and_t t4
        obtain ⟨h5, h6⟩ := and_t t5
        obtain ⟨d1, d2⟩ := plainN_ok h4
        have h2 : X.N[i]? = some x := by rw [hN]; exact dec_t h2
        have pv := PE.fz hz (SE.ex h6 g rfl hK hm) (F0 := F0) (H0 := H0)
        have pk := PE.vw (SE.ex h5 g rfl hK hm2) (F0 := F0) (H0 := H0)
        have px := q_var (K := K) (F0 := F0) (H0 := H0) (pos := px) h2 (visB_ok h3) d1 d2 hΓ (by decide)
        refine PS.ex (s_put (f := ev Φ v) (fk := ev Φ kx) hΓ (ps_dput (by omega) px pk pv sw_sub)) fun ρ => by simp only [Q.ex] <;> rfl
      · cases h
    · cases ht
  | exp e => cases h
  | ite c a b =>
    simp only [tyS] at ht
    split at ht
    · rename_i hc
      obtain ⟨m, hm⟩ := some_of hc
      simp only [Option.bind_eq_some_iff] at ht
      obtain ⟨x, hx, y, hy, hj⟩ := ht
      simp only [mS] at h
      split at h
      · obtain ⟨h1, t2⟩ := and_t h
        obtain ⟨h2, h3⟩ := and_t t2
        exact PS.ex (s_if hj (SE.ts h1 g rfl hK hm).1 (S.bl h2 g rfl hK hfn hp hx) (S.bl h3 g rfl hK hfn hp hy)) fun ρ => by simp only [Q.ex] <;> rfl
      · cases h
    · cases ht
  | whl inv c b =>
    simp only [tyS] at ht
    split at ht
    · rename_i hc
      obtain ⟨hi, hc⟩ := and_t hc
      obtain ⟨m, hm⟩ := some_of hc
      simp only [mS] at h
      have go : ∀ Γb, tyB isF fr b (some inv) inv = some Γb → (∀ Γ1, Γb = some Γ1 → leO inv Γ1 = true) → PS X st (tS K F0 H0 Γ fr lp (some inv) (Q.ex Φ W (.whl inv c b))) := fun Γb hb hw => by
        split at h
        · obtain ⟨h1, h2⟩ := and_t h
          exact PS.ex (s_whl hp W hi hw (SE.ts h1 g rfl hK hm).1 (S.bl h2 g rfl hK hfn hp hb)) fun ρ => by simp only [Q.ex]
        · cases h
      split at ht
      · rename_i hb
        cases ht
        exact go none hb fun _ z => by cases z
      · rename_i Γ1 hb
        split at ht
        · rename_i hl
          cases ht
          exact go _ hb fun _ z => by cases z; exact hl
        · cases ht
      · cases ht
    · cases ht
  | for_ inv p it b =>
    simp only [tyS] at ht
    split at ht
    · rename_i hc
      obtain ⟨hi, hc⟩ := and_t hc
      obtain ⟨m, hm, hz⟩ := frz_of hc
      simp only [mS] at h
      have go : ∀ Γb, tyB isF fr b (some inv) (setG inv (psl p)) = some Γb → (∀ Γ1, Γb = some Γ1 → leO inv Γ1 = true) → PS X st (tS K F0 H0 Γ fr lp (some inv) (Q.ex Φ W (.for_ inv p it b))) := fun Γb hb hw => by
        split at h
        · obtain ⟨h1, t2⟩ := and_t h
          obtain ⟨h2, t3⟩ := and_t t2
          obtain ⟨h3, h4⟩ := and_t t3
          cases n with
          | zero => cases h3
          | succ n =>
            rw [← hN] at h1
            have pg := pg_P g.calm g.nd sto h1
            rw [hK] at pg
            exact PS.ex (s_for hp g.calm hi hw (snd_itF (snd N isF Φ n) h3 g rfl hK hm hz) pg (S.bl h4 g rfl hK hfn hp hb) (noSet_ok h2)) fun ρ => by simp only [Q.ex]
        · cases h
      split at ht
      · rename_i hb
        cases ht
        exact go none hb fun _ z => by cases z
      · rename_i Γ1 hb
        split at ht
        · rename_i hl
          cases ht
          exact go _ hb fun _ z => by cases z; exact hl
        · cases ht
      · cases ht
    · cases ht
  | ret e =>
    simp only [tyS, Option.bind_eq_some_iff] at ht
    obtain ⟨m, hm, ht⟩ := ht
    split at ht
    · rename_i hr
      cases ht
      simp only [mS] at h
      split at h
      · refine PS.ex (s_ret hr (fun i hi => ?_) (ps_ret (SE.ex h g rfl hK hm))) fun ρ => by simp only [Q.ex]
        subst hi
        obtain ⟨rfl, hΓ⟩ := md_pl hm
        exact ⟨hΓ, fun ρ d hd => by simpa only [ev, vr] using hd⟩
      · cases h
    · cases ht
  | pass =>
    cases ht
    simp only [mS] at h
    split at h
    · exact s_pass
    · cases h
  | brk =>
    simp only [tyS, Option.bind_eq_some_iff] at ht
    obtain ⟨inv, rfl, ht⟩ := ht
    split at ht
    · rename_i hi
      cases ht
      simp only [mS] at h
      split at h
      · exact s_brk hi
      · cases h
    · cases ht
  | cnt =>
    simp only [tyS, Option.bind_eq_some_iff] at ht
    obtain ⟨inv, rfl, ht⟩ := ht
    split at ht
    · rename_i hi
      cases ht
      simp only [mS] at h
      split at h
      · exact s_cnt hi
      · cases h
    · cases ht
  | frz i => cases h
theorem snd_bl (S : SndS N isF Φ fr W n) : ∀ {sc : Scope} {sts : List Stmt} {b : B}, mB N (n + 1) sc sts b = true → ∀ {X : Cx} {k : Nat} {K : PySem.W.Frag} {F0 H0 : Hp} {Γ : List O} {lp Γn : Option (List O)}, Good X N isF Φ k → X.env.scope = sc → X.K = K → (∀ x, X.fn x = true) → PassesOwn (model X.prog X.w) X.A X.env X.xe → tyB isF fr b lp Γ = some Γn →
    PSs X sts (tS K F0 H0 Γ fr lp Γn (exB Φ W b)) := by
  intro sc sts b h X k K F0 H0 Γ lp Γn g hs hK hfn hp ht
  cases b with
  | nil =>
    cases ht
    simp only [mB] at h
    split at h
    · exact PSs.ex s_nil fun ρ => by simp only [exB]
    · cases h
  | cons s r =>
    have gen : (∀ i, s ≠ .frz i) → headB N n sc sts s r = true → ((tyS isF fr s lp Γ).bind fun | none => some none | some Γ1 => tyB isF fr r lp Γ1) = some Γn → PSs X sts (tS K F0 H0 Γ fr lp Γn (exB Φ W (.cons s r))) := fun _ h ht => by
      unfold headB at h
      split at h
      · obtain ⟨h1, h2⟩ := and_t h
        simp only [Option.bind_eq_some_iff] at ht
        obtain ⟨o, ho, ht⟩ := ht
        have p1 := S.st h1 (F0 := F0) (H0 := H0) g hs hK hfn hp ho
        refine PSs.ex (g := kQ (Q.ex Φ W s) (exB Φ W r)) ?_ fun ρ => by simp only [exB]; rfl
        cases o with
        | none => exact s_last p1
        | some Γ1 => exact s_cons p1 (S.bl h2 g hs hK hfn hp ht)
      · cases h
    cases s with
    | frz i =>
      simp only [tyB] at ht
      split at ht
      · rename_i hΓ
        have hΓ := dec_t hΓ
        simp only [mB] at h
        exact PSs.ex (s_frz hΓ (S.bl h g hs hK hfn hp ht)) fun ρ => by simp only [exB, Q.ex]; rfl
      · cases ht
    | _ => exact gen (fun _ => by simp) h ht
theorem sndS (N : List Str) (isF : Sig) (Φ : Fns) (fr : Bool) (W : Nat) : ∀ n, SndS N isF Φ fr W n
  | 0 => by
    constructor
    · intro sc e t h; cases h
    · intro sc e t h; cases h
  | n + 1 => ⟨snd_st (sndS N isF Φ fr W n), snd_bl (sndS N isF Φ fr W n)⟩
end
end Q
set_option autoImplicit false
set_option linter.all false
set_option maxRecDepth 100000
set_option maxHeartbeats 8000000
namespace Q
open PySem PySem.Spec PyProof.Rows L2
def plainA (p : Arguments) : Bool := p.posonlyargs.isEmpty && (p.vararg.isNone && (p.kwonlyargs.isEmpty && (p.kwarg.isNone && p.defaults.isEmpty)))
theorem zipFm : ∀ {ps : List Str} {us : List Value}, ps.Nodup → us.length = ps.length → (ps.filterMap fun n => ((ps.zip us).lookup n).map (n, ·)) = ps.zip us := by
  intro ps us nd hl
  have gen : ∀ (qs : List Str) (vs : List Value) (pre : List (Str × Value)), qs.Nodup → vs.length = qs.length → (∀ q ∈ qs, pre.lookup q = none) → (qs.filterMap fun n => ((pre ++ qs.zip vs).lookup n).map (n, ·)) = qs.zip vs := by
    intro qs
    induction qs with
    | nil => intro vs pre _ _ _; rfl
    | cons q qs ih =>
      intro vs pre nd hl hp
      cases vs with
      | nil => cases hl
      | cons v vs =>
        obtain ⟨n1, n2⟩ := List.nodup_cons.mp nd
        have e1 : (pre ++ (q :: qs).zip (v :: vs)).lookup q = some v := by
          rw [List.lookup_append, hp q (by simp)]; simp
        have e2 : pre ++ (q :: qs).zip (v :: vs) = (pre ++ [(q, v)]) ++ qs.zip vs := by simp
        rw [List.filterMap_cons, e1]
        simp only [Option.map_some, List.zip_cons_cons]
        congr 1
        have e3 : pre ++ (q, v) :: qs.zip vs = (pre ++ [(q, v)]) ++ qs.zip vs := by simp
        rw [e3]
        refine ih vs (pre ++ [(q, v)]) n2 (by simpa using hl) fun r hr => ?_
        rw [List.lookup_append, hp r (by simp [hr])]
        have : (r == q) = false := beq_eq_false_iff_ne.mpr fun z => n1 (z ▸ hr)
        simp [List.lookup, this]
  simpa using gen ps us [] nd hl fun _ _ => rfl
theorem zipLook : ∀ {ps : List Str} {us : List Value}, us.length = ps.length → ∀ n ∈ ps, ((ps.zip us).lookup n).isNone = false := by
  intro ps
  induction ps with
  | nil => intro us _ n h; cases h
  | cons p ps ih =>
    intro us hl n h
    cases us with
    | nil => cases hl
    | cons u us =>
      rw [List.zip_cons_cons, List.lookup_cons]
      split
      · rfl
      · rename_i z
        rcases List.mem_cons.mp h with e | e
        · subst e; simp at z
        · exact ih (by simpa using hl) n e
theorem bind_plain {fd : FuncData} (hp : plainA fd.params = true) (hd : fd.defaults = .none) (nd : (fd.params.args.map (·.arg)).Nodup) (us : List Value) (hl : us.length = (fd.params.args.map (·.arg)).length) : bindArgs fd ⟨us, []⟩ = pure ((fd.params.args.map (·.arg)).zip us) := by
  obtain ⟨h1, t⟩ := and_t hp
  obtain ⟨h2, t⟩ := and_t t
  obtain ⟨h3, t⟩ := and_t t
  obtain ⟨h4, h5⟩ := and_t t
  have h1 := List.isEmpty_iff.mp h1
  have h3 := List.isEmpty_iff.mp h3
  have h2 : fd.params.vararg = none := by simpa using h2
  have h4 : fd.params.kwarg = none := by simpa using h4
  have hs : seqItems? fd.defaults = pure none := by rw [hd]; rfl
  unfold bindArgs
  rw [hs]
  simp only [h1, h2, h3, h4, List.map_nil, List.nil_append, List.forIn_nil, pure_bind, Option.getD_none, List.append_nil, List.length_nil, List.drop_nil, Nat.sub_zero]
  have m0 : ((fd.params.args.map (·.arg)).take (fd.params.args.map (·.arg)).length).filter (fun n => (((fd.params.args.map (·.arg)).zip us).lookup n).isNone) = [] := by
    rw [List.take_length]
    exact List.filter_eq_nil_iff.mpr fun n hn => by rw [zipLook hl n hn]; simp
  generalize (fd.params.args.map (·.arg)) = qs at hl nd m0 ⊢
  have g0 : decide (us.length > qs.length) = false := by rw [hl]; simp
  rw [g0, m0]
  simp only [Bool.false_and, Bool.false_eq_true, if_false, pure_bind, List.isEmpty_nil, Bool.not_true, List.zip_nil_right, List.forIn_nil, Array.toList_empty, List.drop_nil, List.length_nil, List.append_nil]
  rw [zipFm nd hl]

structure Df where
  name : Str
  N : List Str
  fr : Bool
  fn : Fn
def lk (T : List Df) (g : Str) : Option Df := T.find? fun d => d.name == g
def sigOf (T : List Df) : Sig := fun g => (lk T g).map fun d => (d.fn.np, d.fr)
def fnsOf (T : List Df) : Str → Option Fn := fun g => (lk T g).map (·.fn)
def Γ0 (np nl : Nat) : List O := List.replicate np .frz ++ List.replicate (nl - np) .dead
def nodupB : List Str → Bool
  | [] => true
  | x :: r => !r.contains x && nodupB r
theorem nodupB_ok : ∀ {l : List Str}, nodupB l = true → l.Nodup
  | [], _ => .nil
  | x :: r, h => by
    obtain ⟨h1, h2⟩ := and_t (show (!r.contains x && nodupB r) = true from h)
    refine List.nodup_cons.mpr ⟨fun z => ?_, nodupB_ok h2⟩
    have : r.contains x = true := by simpa using z
    rw [this] at h1; cases h1
def okDef (isF : Sig) (params : Arguments) (body : List Stmt) (sc : Scope) (d : Df) : Bool :=
  plainA params && (decide (params.args.map (·.arg) = d.N.take d.fn.np) && (decide (d.N.length = d.fn.nl) && (decide (d.fn.np ≤ d.fn.nl) && (nodupB d.N && (funB sc && ((!sc.isCoroutine) && ((!sc.isGenerator) && ((d.N.take d.fn.np).all (locS sc) && ((sc.names.all fun y => match y.2 with | .free => false | _ => true) &&
    (mB d.N 60 sc body d.fn.body && (tyB isF d.fr d.fn.body none (Γ0 d.fn.np d.fn.nl)).isSome))))))))))
theorem scope_of {isF : Sig} {params : Arguments} {body : List Stmt} {sc : Scope} {d : Df} (h : okDef isF params body sc d = true) : FnScope d.N (d.N.take d.fn.np) sc ∧ plainA params = true ∧ params.args.map (·.arg) = d.N.take d.fn.np ∧ d.N.length = d.fn.nl ∧ d.fn.np ≤ d.fn.nl ∧ mB d.N 60 sc body d.fn.body = true ∧ (tyB isF d.fr d.fn.body none (Γ0 d.fn.np d.fn.nl)).isSome = true := by
  obtain ⟨h1, t⟩ := and_t h
  obtain ⟨h2, t⟩ := and_t t
  obtain ⟨h3, t⟩ := and_t t
  obtain ⟨h4, t⟩ := and_t t
  obtain ⟨h5, t⟩ := and_t t
  obtain ⟨h6, t⟩ := and_t t
  obtain ⟨h7, t⟩ := and_t t
  obtain ⟨h8, t⟩ := and_t t
  obtain ⟨h9, t⟩ := and_t t
  obtain ⟨h10, t⟩ := and_t t
  obtain ⟨h11, h12⟩ := and_t t
  refine ⟨⟨funB_ok h6, not_t h7, not_t h8, nodupB_ok h5, by rw [List.length_take]; simp, fun x hx => ?_, fun y hy e => ?_⟩, h1, dec_t h2, dec_t h3, dec_t h4, h11, h12⟩
  · have := List.all_eq_true.mp h9 x hx
    unfold locS at this
    split at this
    · exact .inl (by assumption)
    · exact .inr (by assumption)
    · cases this
  · have := List.all_eq_true.mp h10 y hy
    rw [e] at this
    cases this
theorem runF_len {prog : Str → Option Fn} {W n : Nat} {g : Str} {f : Fn} (hf : prog g = some f) : ∀ ds d, runF prog W n g ds = some d → ds.length = f.np := by
  intro ds d h
  cases n with
  | zero => cases h
  | succ n =>
    unfold runF at h
    rw [hf] at h
    have h : runB (runF prog W n) W f ds = some d := h
    unfold runB at h
    split at h
    · assumption
    · cases h
section
variable {P : Program} {w : World} {K : PySem.W.Frag} {mg : Str → Option Value} {base : Heap} {T : List Df} {W : Nat}
theorem Rel.begin {np nl : Nat} {F H : Hp} {vs : List V} {ds : List D} {N : List Str} (s : Same F H) (r : RpL K F vs ds) (hl : ds.length = np) (hn : N.length = nl) (hle : np ≤ nl) : Rel K F H (Γ0 np nl) F H (ds.map some ++ List.replicate (nl - np) none) (L2.start N vs) := by
  have lv := r.length
  refine ⟨s, .refl _, .refl _, fun a o e => .inl e, fun i d o e1 e2 => ?_, fun i j d e p _ e1 => ?_, ?_⟩
  · have hi : i < ds.length := by
      apply Classical.byContradiction
      intro z
      rw [List.getElem?_append_right (by simpa using z), List.getElem?_replicate] at e1
      split at e1 <;> cases e1
    rw [List.getElem?_append_left (by simpa using hi), List.getElem?_map] at e1
    unfold Γ0 at e2
    rw [List.getElem?_append_left (by simpa [hl] using hi), List.getElem?_replicate, if_pos (by omega)] at e2
    cases e2
    cases z : ds[i]? with
    | none => rw [z] at e1; cases e1
    | some d' =>
      rw [z] at e1
      cases e1
      obtain ⟨v, ev, rv⟩ := r.get z
      refine ⟨some v, ?_, v, rfl, rv⟩
      unfold L2.start
      rw [List.getElem?_append_left (by rw [List.length_map, lv]; exact hi), List.getElem?_map, ev]; rfl
  · unfold Γ0 at e1
    by_cases hi : i < np
    · rw [List.getElem?_append_left (by simpa using hi), List.getElem?_replicate, if_pos hi] at e1
      cases e1
    · rw [List.getElem?_append_right (by simpa using hi), List.getElem?_replicate] at e1
      split at e1 <;> cases e1
  · unfold L2.start
    simp only [List.length_append, List.length_map, List.length_replicate]
    omega
theorem fn_level {g : Str} {d : Df} {x qual : Str} {params : Arguments} {body : List Stmt} {sc : Scope} {f : Addr} {fd : FuncData} (n : Nat) (hd : lk T g = some d) (FD : FunD K x qual params body sc [] [] f fd) (ok : okDef (sigOf T) params body sc d = true) (hblt : ∀ x ∈ bltL, mg x = none)
    (hall : ∀ g' d', lk T g' = some d' → ∃ f' fd' ps', ps'.length = d'.fn.np ∧ mg g' = some (.ref f') ∧ PySem.W.keepIn K (.ref f') = true ∧ Binds K fd' ps' [] ∧ FnOk P w K mg base L2.CX0 n f' fd' ps' (spG K d'.fn.np d'.fr (runF (fnsOf T) W n g'))) :
    FnOk P w K mg base L2.CX0 (n + 1) f fd (d.N.take d.fn.np) (spG K d.fn.np d.fr (runF (fnsOf T) W (n + 1) g)) := by
  obtain ⟨S, h1, h2, h3, h4, h5, h6⟩ := scope_of ok
  have hlen : (d.N.take d.fn.np).length = d.fn.np := by rw [List.length_take]; omega
  refine FD.ok S (fun vs H Q E h => by rw [hlen]; exact h.1) fun cdv A outer s H vs Q E hr h => ?_
  obtain ⟨hv, F, ds, dd, hs, hrp, hφ, hQ⟩ := h
  obtain ⟨Γn, hty⟩ := some_of h6
  have hfns : fnsOf T g = some d.fn := by unfold fnsOf; rw [hd]; rfl
  refine ⟨tS K F H (Γ0 d.fn.np d.fn.nl) d.fr none Γn (exB (runF (fnsOf T) W n) W d.fn.body), PSs.nox ?_, ?_⟩
  · refine (sndS d.N (sigOf T) (runF (fnsOf T) W n) d.fr W 60).bl h5 (X := (cxOf L2.CX0 P w K mg base d.N qual sc f cdv A outer s H E).nox) (k := n) ⟨rfl, S.nd, rfl, hr, hblt, fun g' np' fr' hg => ?_⟩ rfl rfl (fun _ => rfl) PassesOwn.never hty
    unfold sigOf at hg
    rw [Option.map_eq_some_iff] at hg
    obtain ⟨d', hd', e⟩ := hg
    cases e
    obtain ⟨f', fd', ps', q1, q2, q3, q4, q5⟩ := hall g' d' hd'
    exact ⟨runF_len (f := d'.fn) (by unfold fnsOf; rw [hd']; rfl), f', fd', ps', q1, q2, q3, q4, q5⟩
  · have hφ : runB (runF (fnsOf T) W n) W d.fn ds = some dd := by
      unfold runF at hφ
      rw [hfns] at hφ
      exact hφ
    unfold runB at hφ
    split at hφ
    · rename_i hl
      simp only [Option.bind_eq_some_iff] at hφ
      obtain ⟨r, hr1, hr2⟩ := hφ
      refine ⟨F, _, r, Rel.begin hs hrp hl h3 h4, hr1, ?_⟩
      cases r with
      | nx ρ =>
        cases hr2
        intro Γ _ F2 H2 σ2 s2 R2
        refine hQ .non F2 H2 R2.all ?_
        cases d.fr with
        | true => exact post_own (σ := []) rfl .non
        | false => exact .non
      | rt d2 =>
        cases hr2
        exact fun v F2 H2 st p => hQ v F2 H2 st p
      | bk ρ => cases hr2
      | ct ρ => cases hr2
    · cases hφ
theorem level (hblt : ∀ x ∈ bltL, mg x = none)
    (hT : ∀ g d, lk T g = some d → ∃ x qual params body sc f fd, FunD K x qual params body sc [] [] f fd ∧ mg g = some (.ref f) ∧ okDef (sigOf T) params body sc d = true) :
    ∀ n g d, lk T g = some d → ∃ f fd ps, ps.length = d.fn.np ∧ mg g = some (.ref f) ∧ PySem.W.keepIn K (.ref f) = true ∧ Binds K fd ps [] ∧ FnOk P w K mg base L2.CX0 n f fd ps (spG K d.fn.np d.fr (runF (fnsOf T) W n g)) := by
  intro n
  induction n with
  | zero =>
    intro g d hd
    obtain ⟨x, qual, params, body, sc, f, fd, FD, hm, ok⟩ := hT g d hd
    obtain ⟨S, h1, h2, h3, h4, h5, h6⟩ := scope_of ok
    have hlen : (d.N.take d.fn.np).length = d.fn.np := by rw [List.length_take]; omega
    refine ⟨f, fd, d.N.take d.fn.np, hlen, hm, FD.kp, FD.bindsN fun kV doc pm an cdv ct us hl => ?_, fun vs H Q E h => by rw [hlen]; exact h.1, fun A outer s H args us vs Q E hr e0 hb r hsp => ?_⟩
    · rw [← h2] at hl ⊢
      exact bind_plain h1 rfl (h2 ▸ S.nd.sublist (List.take_sublist _ _)) us hl
    · obtain ⟨_, _, _, _, _, _, hφ, _⟩ := hsp
      cases hφ
  | succ n ih =>
    intro g d hd
    obtain ⟨x, qual, params, body, sc, f, fd, FD, hm, ok⟩ := hT g d hd
    obtain ⟨S, h1, h2, h3, h4, h5, h6⟩ := scope_of ok
    have hlen : (d.N.take d.fn.np).length = d.fn.np := by rw [List.length_take]; omega
    refine ⟨f, fd, d.N.take d.fn.np, hlen, hm, FD.kp, FD.bindsN fun kV doc pm an cdv ct us hl => ?_, fn_level n hd FD ok hblt ih⟩
    rw [← h2] at hl ⊢
    exact bind_plain h1 rfl (h2 ▸ S.nd.sublist (List.take_sublist _ _)) us hl
end
end Q
set_option autoImplicit false
set_option linter.all false
set_option maxRecDepth 100000
set_option maxHeartbeats 8000000
namespace Q
open PySem PySem.Spec PyProof.Rows L2
def bs : List S → B
  | [] => .nil
  | s :: r => .cons s (bs r)
def dOf : Stmt → Option He.DefD
  | .FunctionDef n a b _ _ _ sc _ _ _ => some ⟨(n, none), n, n, a, b, sc, [], []⟩
  | _ => none
theorem dOf_plain {st : Stmt} {e : He.DefD} (h : dOf st = some e) : e.at_ = (e.name, none) ∧ e.dfl = [] ∧ e.kwd = [] := by
  cases st <;> cases h
  exact ⟨rfl, rfl, rfl⟩
def okTab (fn : List He.DefD) (T : List Df) : Bool := T.all fun d => match fn.find? fun e => e.name == d.name with
  | some e => okDef (sigOf T) e.params e.body e.scope d
  | none => false
section
variable {P : Program} {w : World} {K : PySem.W.Frag} {h : Heap} {mg : Str → Option Value} {f : Addr} {top : List Stmt} {T : List Df} {dl : Df} {W n : Nat}
theorem tab_facts (hok : okTab (top.filterMap dOf) T = true) (X : K.In h) (G : h.Ns mainGlobals mg) (c : He.SaysD ((top.filterMap dOf).map (fun d => He.Fa.glo d.name) ++ bltL.map He.Fa.free) (top.filterMap dOf) K) :
    (∀ x ∈ bltL, mg x = none) ∧ ∀ g d, lk T g = some d → ∃ x qual params body sc f fd, FunD K x qual params body sc [] [] f fd ∧ mg g = some (.ref f) ∧ okDef (sigOf T) params body sc d = true := by
  refine ⟨fun x hx => He.free_ok X G (c.facts (List.mem_append_right _ (List.mem_map.mpr ⟨x, hx, rfl⟩))), fun g d hd => ?_⟩
  have hm := List.mem_of_find?_eq_some hd
  have hn : d.name = g := by simpa using List.find?_some hd
  have h1 := List.all_eq_true.mp hok d hm
  split at h1
  · rename_i e he
    have em := List.mem_of_find?_eq_some he
    have en : e.name = d.name := by simpa using List.find?_some he
    obtain ⟨st, _, hst⟩ := List.mem_filterMap.mp em
    obtain ⟨p1, p2, p3⟩ := dOf_plain hst
    obtain ⟨fd, F⟩ := c.defs em
    have g1 := He.glo_ok X G (c.facts (List.mem_append_left _ (List.mem_map.mpr ⟨e, em, rfl⟩)))
    have d1 : e.dvs K = [] := by unfold He.DefD.dvs; rw [p2]; rfl
    have d2 : e.kws K = [] := by unfold He.DefD.kws; rw [p3]; rfl
    rw [d1, d2, p1] at F
    rw [en, hn] at g1
    exact ⟨_, _, _, _, _, _, fd, (by rw [en, hn] at F; exact F), g1, h1⟩
  · cases h1
theorem law_facts (hok : okTab (top.filterMap dOf) T = true) (hl : lk T ("law" : Str) = some dl) (hps : dl.N.take dl.fn.np = [("script" : Str)]) (hfr : dl.fr = false) (hnp : dl.fn.np = 1)
    (X : K.In h) (G : h.Ns mainGlobals mg) (hm : mg ("law" : Str) = some (.ref f)) (c : He.SaysD ((top.filterMap dOf).map (fun d => He.Fa.glo d.name) ++ bltL.map He.Fa.free) (top.filterMap dOf) K)
    (hlaw : ∀ ns : List Int, ns.length ≤ 63 → runF (fnsOf T) W (n + 1) ("law" : Str) [scrD ns] = some (.bool true)) :
    ∃ fd : FuncData, (∀ (s : Shared) (v : Value), BindsTo s fd ⟨[v], []⟩ [(("script" : Str), v)]) ∧
      (∀ (H : Hp) (a : Addr) (ns : List Int), ns.length ≤ 63 → Only H → SqL K H a (ns.map V.int) → spG K 1 false (runF (fnsOf T) W (n + 1) ("law" : Str)) [.ref a] H (fun v _ => v = .bl true) fun _ _ _ => False) ∧
      ∀ base : Heap, K.In base → base.Ns mainGlobals mg → FnOk P w K mg base L2.CX0 (n + 1) f fd [("script" : Str)] (spG K 1 false (runF (fnsOf T) W (n + 1) ("law" : Str))) := by
  obtain ⟨hb, hT⟩ := tab_facts hok X G c
  obtain ⟨x, qual, params, body, sc, f2, fd, F, g1, ok⟩ := hT _ _ hl
  have e := hm.symm.trans g1
  cases e
  obtain ⟨S, h1, h2, h3, h4, h5, h6⟩ := scope_of ok
  refine ⟨fd, fun s v => ?_, fun H a ns hlen _ hS => ⟨rfl, H, [scrD ns], .bool true, .refl _, .cons (.scr hS) .nil, hlaw ns hlen, fun v F' H' _ p => ?_⟩, fun base _ _ => ?_⟩
  · have b := FunD.bindsA (ps := params.args.map (·.arg)) F (fun kV doc pm an cdv ct us hl => bind_plain h1 rfl (h2 ▸ S.nd.sublist (List.take_sublist _ _)) us hl) s [v] (by rw [h2, hps]; rfl)
    rw [h2, hps] at b
    exact b
  · have p : Rp K F' v (.bool true) := p
    cases p
    rfl
  · have q := fn_level (P := P) (w := w) (base := base) (W := W) n hl F ok hb (level hb hT n)
    rw [hps, hnp, hfr] at q
    exact q
end
end Q
set_option autoImplicit false
set_option linter.all false
set_option maxRecDepth 100000
set_option maxHeartbeats 0
namespace Q
open PySem
def d_is_number : Df := ⟨"is_number", ["value"], false, ⟨1, 1, bs [.ret (.and (.isi (.var 0) [.int]) (.not (.isi (.var 0) [.bool])))]⟩⟩
def d_is_index : Df := ⟨"is_index", ["value", "size"], false, ⟨2, 2, bs [.ret (.and (.call .frz "is_number" (.cons (.var 0) .nil)) (.chn .le .lt (.int 0) (.var 0) (.var 1)))]⟩⟩
def d_is_tagged : Df := ⟨"is_tagged", ["paper", "tag", "length"], false, ⟨3, 3, bs [.ite (.or (.not (.isi (.var 0) [.tuple])) (.cmp .ne (.bi .len (.var 0)) (.var 2))) (bs [.ret (.bl false)]) (bs []), .ret (.and (.isi (.ix (.var 0) (.int 0)) [.str]) (.cmp .eq (.ix (.var 0) (.int 0)) (.var 1)))]⟩⟩
def d_is_indexes : Df := ⟨"is_indexes", ["value", "size", "last", "item"], false, ⟨2, 4, bs [.ite (.not (.isi (.var 0) [.list])) (bs [.ret (.bl false)]) (bs []), .asg 2 false (.neg (.int 1)), .for_ [.frz, .frz, .frz, .dead] (.nm 3) (.var 0) (bs [.ite (.or (.not (.call .frz "is_index" (.cons (.var 3) (.cons (.var 1) .nil)))) (.cmp .le (.var 3) (.var 2))) (bs [.ret (.bl false)]) (bs []), .asg 2 false (.var 3)]), .ret (.bl true)]⟩⟩
def d_account_numbers : Df := ⟨"account_numbers", ["house", "at"], true, ⟨1, 2, bs [.ret (.dc [1] (.nm 1) (.rng1 (.bi .len (.ix (.var 0) (.int 0)))) (.ix (.ix (.ix (.var 0) (.int 0)) (.var 1)) (.int 0)) (.var 1))]⟩⟩
def d_accesses_of : Df := ⟨"accesses_of", ["numbers", "statement"], false, ⟨2, 2, bs [.ite (.cmp .eq (.ix (.var 1) (.int 0)) (.str "read")) (bs [.ret (.tup (.cons (.tup (.cons (.str "reads") (.cons (.ix (.var 0) (.ix (.var 1) (.int 2))) .nil))) .nil))]) (bs []), .ite (.cmp .eq (.ix (.var 1) (.int 0)) (.str "write")) (bs [.ret (.tup (.cons (.tup (.cons (.str "writes") (.cons (.ix (.var 0) (.ix (.var 1) (.int 1))) .nil))) .nil))]) (bs []), .ret (.tup .nil)]⟩⟩
def d_accounts_written : Df := ⟨"accounts_written", ["way", "kind", "account"], true, ⟨1, 3, bs [.ret (.bi .sset (.lc [1, 2] (.tp [1, 2]) (.var 0) true (.cmp .eq (.var 1) (.str "writes")) (.var 2)))]⟩⟩
def d_accounts_read : Df := ⟨"accounts_read", ["way", "kind", "account"], true, ⟨1, 3, bs [.ret (.bi .sset (.lc [1, 2] (.tp [1, 2]) (.var 0) true (.cmp .eq (.var 1) (.str "reads")) (.var 2)))]⟩⟩
def d_have_common : Df := ⟨"have_common", ["accounts", "others", "account"], false, ⟨2, 3, bs [.for_ [.frz, .frz, .dead] (.nm 2) (.var 0) (bs [.ite (.cmp .inn (.var 2) (.var 1)) (bs [.ret (.bl true)]) (bs [])]), .ret (.bl false)]⟩⟩
def d_do_meet : Df := ⟨"do_meet", ["way", "other", "kind", "account"], false, ⟨2, 4, bs [.ite (.call .frz "have_common" (.cons (.call .frz "accounts_written" (.cons (.var 0) .nil)) (.cons (.lc [2, 3] (.tp [2, 3]) (.var 1) false (.non) (.var 3)) .nil))) (bs [.ret (.bl true)]) (bs []), .ret (.call .frz "have_common" (.cons (.call .frz "accounts_written" (.cons (.var 1) .nil)) (.cons (.call .frz "accounts_read" (.cons (.var 0) .nil)) .nil)))]⟩⟩
def d_pieces_of : Df := ⟨"pieces_of", ["house", "cuts", "job", "body", "places", "at"], true, ⟨3, 6, bs [.asg 3 false (.ix (.ix (.ix (.var 0) (.int 1)) (.var 2)) (.int 2)), .asg 4 false (.bin .add (.bin .add (.lst (.cons (.int 0) .nil)) (.bi .list (.ix (.var 1) (.var 2)))) (.lst (.cons (.bi .len (.var 3)) .nil))), .ret (.lc [5] (.nm 5) (.rng1 (.bin .sub (.bi .len (.var 4)) (.int 1))) false (.non) (.slb (.var 3) (.ix (.var 4) (.var 5)) (.ix (.var 4) (.bin .add (.var 5) (.int 1)))))]⟩⟩
def d_accesses_in : Df := ⟨"accesses_in", ["house", "statements", "numbers", "found", "statement"], false, ⟨2, 5, bs [.asg 2 false (.call .frz "account_numbers" (.cons (.var 0) .nil)), .asg 3 false (.tup .nil), .for_ [.frz, .frz, .frz, .frz, .dead] (.nm 4) (.var 1) (bs [.asg 3 false (.bin .add (.var 3) (.call .frz "accesses_of" (.cons (.var 2) (.cons (.var 4) .nil))))]), .ret (.var 3)]⟩⟩
def d_body_accesses : Df := ⟨"body_accesses", ["house", "job"], false, ⟨2, 2, bs [.ret (.call .frz "accesses_in" (.cons (.var 0) (.cons (.ix (.ix (.ix (.var 0) (.int 1)) (.var 1)) (.int 2)) .nil)))]⟩⟩
def d_piece_accesses : Df := ⟨"piece_accesses", ["house", "cuts", "job", "piece"], true, ⟨3, 4, bs [.ret (.lc [3] (.nm 3) (.call .frz "pieces_of" (.cons (.var 0) (.cons (.var 1) (.cons (.var 2) .nil)))) false (.non) (.call .frz "accesses_in" (.cons (.var 0) (.cons (.var 3) .nil))))]⟩⟩
def d_jobs_meet : Df := ⟨"jobs_meet", ["house", "job", "other"], false, ⟨3, 3, bs [.ret (.call .frz "do_meet" (.cons (.call .frz "body_accesses" (.cons (.var 0) (.cons (.var 1) .nil))) (.cons (.call .frz "body_accesses" (.cons (.var 0) (.cons (.var 2) .nil))) .nil)))]⟩⟩
def d_other_jobs : Df := ⟨"other_jobs", ["house", "job", "other"], true, ⟨2, 3, bs [.ret (.lc [2] (.nm 2) (.rng1 (.bi .len (.ix (.var 0) (.int 1)))) true (.cmp .ne (.var 2) (.var 1)) (.var 2))]⟩⟩
def d_lists_from : Df := ⟨"lists_from", ["house", "accesses", "job", "nodes", "known", "at", "other", "line"], true, ⟨3, 8, bs [.asg 3 true (.lc [6] (.nm 6) (.call .frz "other_jobs" (.cons (.var 0) (.cons (.var 2) .nil))) true (.call .frz "do_meet" (.cons (.var 1) (.cons (.call .frz "body_accesses" (.cons (.var 0) (.cons (.var 6) .nil))) .nil))) (.lst (.cons (.var 6) .nil))), .asg 4 true (.dc [7] (.nm 7) (.var 3) (.ix (.var 7) (.neg (.int 1))) (.bl true)), .asg 5 false (.int 0), .whl [.frz, .frz, .frz, .own, .own, .frz, .dead, .dead] (.cmp .lt (.var 5) (.bi .len (.var 3))) (bs [.for_ [.frz, .frz, .frz, .own, .own, .frz, .dead, .dead] (.nm 6) (.call .frz "other_jobs" (.cons (.var 0) (.cons (.var 2) .nil))) (bs [.ite (.and (.cmp .nin (.var 6) (.var 4)) (.call .frz "jobs_meet" (.cons (.var 0) (.cons (.ix (.ix (.var 3) (.var 5)) (.neg (.int 1))) (.cons (.var 6) .nil))))) (bs [.put 4 (.var 6) (.bl true), .app 3 (.bin .add (.ix (.var 3) (.var 5)) (.lst (.cons (.var 6) .nil)))]) (bs [])]), .asg 5 false (.bin .add (.var 5) (.int 1))]), .ret (.var 3)]⟩⟩
def d_crossing : Df := ⟨"crossing", ["house", "pieces", "job", "i", "j", "line"], false, ⟨5, 6, bs [.for_ [.frz, .frz, .frz, .frz, .frz, .dead] (.nm 5) (.call .frz "lists_from" (.cons (.var 0) (.cons (.ix (.var 1) (.var 3)) (.cons (.var 2) .nil)))) (bs [.ite (.call .frz "do_meet" (.cons (.call .frz "body_accesses" (.cons (.var 0) (.cons (.ix (.var 5) (.neg (.int 1))) .nil))) (.cons (.ix (.var 1) (.var 4)) .nil))) (bs [.ret (.var 5)]) (bs [])]), .ret (.non)]⟩⟩
def d_parts_without : Df := ⟨"parts_without", ["house", "job", "found", "known", "other", "line", "at", "more"], true, ⟨2, 8, bs [.asg 2 true (.lst .nil), .asg 3 true (.dc0), .for_ [.frz, .frz, .own, .own, .dead, .dead, .dead, .dead] (.nm 4) (.call .frz "other_jobs" (.cons (.var 0) (.cons (.var 1) .nil))) (bs [.ite (.cmp .nin (.var 4) (.var 3)) (bs [.asg 5 true (.lst (.cons (.var 4) .nil)), .put 3 (.var 4) (.bl true), .asg 6 false (.int 0), .whl [.frz, .frz, .own, .own, .frz, .own, .frz, .dead] (.cmp .lt (.var 6) (.bi .len (.var 5))) (bs [.for_ [.frz, .frz, .own, .own, .frz, .own, .frz, .dead] (.nm 7) (.call .frz "other_jobs" (.cons (.var 0) (.cons (.var 1) .nil))) (bs [.ite (.and (.cmp .nin (.var 7) (.var 3)) (.call .frz "jobs_meet" (.cons (.var 0) (.cons (.ix (.var 5) (.var 6)) (.cons (.var 7) .nil))))) (bs [.put 3 (.var 7) (.bl true), .app 5 (.var 7)]) (bs [])]), .asg 6 false (.bin .add (.var 6) (.int 1))]), .app 2 (.bi .sorted (.var 5))]) (bs [])]), .ret (.var 2)]⟩⟩
def d_cuts_paper : Df := ⟨"cuts_paper", ["house", "cuts", "job", "pieces", "i", "j", "line"], false, ⟨2, 7, bs [.for_ [.frz, .frz, .dead, .dead, .dead, .dead, .dead] (.nm 2) (.rng1 (.bi .len (.ix (.var 0) (.int 1)))) (bs [.asg 3 false (.call .frz "piece_accesses" (.cons (.var 0) (.cons (.var 1) (.cons (.var 2) .nil)))), .for_ [.frz, .frz, .frz, .frz, .dead, .dead, .dead] (.nm 4) (.rng1 (.bi .len (.var 3))) (bs [.for_ [.frz, .frz, .frz, .frz, .frz, .dead, .dead] (.nm 5) (.rng2 (.bin .add (.var 4) (.int 1)) (.bi .len (.var 3))) (bs [.asg 6 false (.call .frz "crossing" (.cons (.var 0) (.cons (.var 3) (.cons (.var 2) (.cons (.var 4) (.cons (.var 5) .nil)))))), .ite (.isN (.var 6) true) (bs [.ret (.tup (.cons (.str "crossed") (.cons (.var 2) (.cons (.var 4) (.cons (.var 5) (.cons (.var 6) .nil))))))]) (bs [])])])]), .ret (.tup (.cons (.str "right") (.cons (.lc [2] (.nm 2) (.rng1 (.bi .len (.ix (.var 0) (.int 1)))) false (.non) (.call .frz "parts_without" (.cons (.var 0) (.cons (.var 2) .nil)))) .nil)))]⟩⟩
def d_is_crossing : Df := ⟨"is_crossing", ["house", "pieces", "job", "i", "j", "line", "at"], false, ⟨6, 7, bs [.for_ [.frz, .frz, .frz, .frz, .frz, .frz, .dead] (.nm 6) (.rng2 (.int 1) (.bi .len (.var 5))) (bs [.ite (.not (.call .frz "jobs_meet" (.cons (.var 0) (.cons (.ix (.var 5) (.bin .sub (.var 6) (.int 1))) (.cons (.ix (.var 5) (.var 6)) .nil))))) (bs [.ret (.bl false)]) (bs [])]), .ret (.and (.call .frz "do_meet" (.cons (.ix (.var 1) (.var 3)) (.cons (.call .frz "body_accesses" (.cons (.var 0) (.cons (.ix (.var 5) (.int 0)) .nil))) .nil))) (.call .frz "do_meet" (.cons (.call .frz "body_accesses" (.cons (.var 0) (.cons (.ix (.var 5) (.neg (.int 1))) .nil))) (.cons (.ix (.var 1) (.var 4)) .nil))))]⟩⟩
def d_shows_crossed : Df := ⟨"shows_crossed", ["house", "cuts", "paper", "tag", "job", "i", "j", "line", "pieces", "other"], false, ⟨3, 10, bs [.ite (.or (.not (.call .frz "is_tagged" (.cons (.var 2) (.cons (.str "crossed") (.cons (.int 5) .nil))))) (.not (.call .frz "is_index" (.cons (.ix (.var 2) (.int 1)) (.cons (.bi .len (.ix (.var 0) (.int 1))) .nil))))) (bs [.ret (.bl false)]) (bs []), .unp [3, 4, 5, 6, 7] (.var 2), .asg 8 false (.call .frz "piece_accesses" (.cons (.var 0) (.cons (.var 1) (.cons (.var 4) .nil)))), .ite (.or (.not (.call .frz "is_index" (.cons (.var 6) (.cons (.bi .len (.var 8)) .nil)))) (.not (.call .frz "is_index" (.cons (.var 5) (.cons (.var 6) .nil))))) (bs [.ret (.bl false)]) (bs []), .ite (.or (.not (.isi (.var 7) [.list])) (.cmp .eq (.bi .len (.var 7)) (.int 0))) (bs [.ret (.bl false)]) (bs []), .for_ [.frz, .frz, .frz, .frz, .frz, .frz, .frz, .frz, .frz, .dead] (.nm 9) (.var 7) (bs [.ite (.or (.not (.call .frz "is_index" (.cons (.var 9) (.cons (.bi .len (.ix (.var 0) (.int 1))) .nil)))) (.cmp .eq (.var 9) (.var 4))) (bs [.ret (.bl false)]) (bs [])]), .ret (.and (.cmp .eq (.bi .lset (.var 7)) (.bi .len (.var 7))) (.call .frz "is_crossing" (.cons (.var 0) (.cons (.var 8) (.cons (.var 4) (.cons (.var 5) (.cons (.var 6) (.cons (.var 7) .nil))))))))]⟩⟩
def d_pieces_met : Df := ⟨"pieces_met", ["house", "pieces", "line", "found", "piece", "other"], false, ⟨3, 6, bs [.asg 3 false (.int 0), .for_ [.frz, .frz, .frz, .frz, .dead, .dead] (.nm 4) (.var 1) (bs [.ite (.cmp .gt (.bi .len (.lc [5] (.nm 5) (.var 2) true (.call .frz "do_meet" (.cons (.var 4) (.cons (.call .frz "body_accesses" (.cons (.var 0) (.cons (.var 5) .nil))) .nil))) (.var 5))) (.int 0)) (bs [.asg 3 false (.bin .add (.var 3) (.int 1))]) (bs [])]), .ret (.var 3)]⟩⟩
def d_are_apart : Df := ⟨"are_apart", ["house", "line", "other", "job", "more"], false, ⟨3, 5, bs [.for_ [.frz, .frz, .frz, .dead, .dead] (.nm 3) (.var 1) (bs [.for_ [.frz, .frz, .frz, .frz, .dead] (.nm 4) (.var 2) (bs [.ite (.call .frz "jobs_meet" (.cons (.var 0) (.cons (.var 3) (.cons (.var 4) .nil)))) (bs [.ret (.bl false)]) (bs [])])]), .ret (.bl true)]⟩⟩
def d_is_parting : Df := ⟨"is_parting", ["house", "job", "value", "found", "line"], false, ⟨3, 5, bs [.ite (.not (.isi (.var 2) [.list])) (bs [.ret (.bl false)]) (bs []), .asg 3 true (.lst .nil), .for_ [.frz, .frz, .frz, .own, .dead] (.nm 4) (.var 2) (bs [.ite (.or (.not (.call .frz "is_indexes" (.cons (.var 4) (.cons (.bi .len (.ix (.var 0) (.int 1))) .nil)))) (.cmp .eq (.bi .len (.var 4)) (.int 0))) (bs [.ret (.bl false)]) (bs []), .ext 3 (.var 4)]), .ret (.and (.cmp .eq (.bi .sorted (.var 3)) (.call .frz "other_jobs" (.cons (.var 0) (.cons (.var 1) .nil)))) (.cmp .eq (.bi .sorted (.var 2)) (.var 2)))]⟩⟩
def d_are_right_parts : Df := ⟨"are_right_parts", ["house", "cuts", "job", "value", "pieces", "at", "other"], false, ⟨4, 7, bs [.ite (.not (.call .frz "is_parting" (.cons (.var 0) (.cons (.var 2) (.cons (.var 3) .nil))))) (bs [.ret (.bl false)]) (bs []), .asg 4 false (.call .frz "piece_accesses" (.cons (.var 0) (.cons (.var 1) (.cons (.var 2) .nil)))), .for_ [.frz, .frz, .frz, .frz, .frz, .dead, .dead] (.nm 5) (.rng1 (.bi .len (.var 3))) (bs [.ite (.cmp .gt (.call .frz "pieces_met" (.cons (.var 0) (.cons (.var 4) (.cons (.ix (.var 3) (.var 5)) .nil)))) (.int 1)) (bs [.ret (.bl false)]) (bs []), .for_ [.frz, .frz, .frz, .frz, .frz, .frz, .dead] (.nm 6) (.sll (.var 3) (.bin .add (.var 5) (.int 1))) (bs [.ite (.not (.call .frz "are_apart" (.cons (.var 0) (.cons (.ix (.var 3) (.var 5)) (.cons (.var 6) .nil))))) (bs [.ret (.bl false)]) (bs [])])]), .ret (.bl true)]⟩⟩
def d_shows_right_cuts : Df := ⟨"shows_right_cuts", ["house", "cuts", "paper", "job"], false, ⟨3, 4, bs [.ite (.or (.not (.call .frz "is_tagged" (.cons (.var 2) (.cons (.str "right") (.cons (.int 2) .nil))))) (.or (.not (.isi (.ix (.var 2) (.int 1)) [.list])) (.cmp .ne (.bi .len (.ix (.var 2) (.int 1))) (.bi .len (.ix (.var 0) (.int 1)))))) (bs [.ret (.bl false)]) (bs []), .for_ [.frz, .frz, .frz, .dead] (.nm 3) (.rng1 (.bi .len (.ix (.var 2) (.int 1)))) (bs [.ite (.not (.call .frz "are_right_parts" (.cons (.var 0) (.cons (.var 1) (.cons (.var 3) (.cons (.ix (.ix (.var 2) (.int 1)) (.var 3)) .nil)))))) (bs [.ret (.bl false)]) (bs [])]), .ret (.bl true)]⟩⟩
def d_law_draws : Df := ⟨"_law_draws", ["script", "many", "found", "cell", "number", "k", "mixed", "base"], true, ⟨2, 8, bs [.asg 2 true (.lst .nil), .for_ [.frz, .frz, .own, .dead, .dead, .dead, .dead, .dead] (.nm 3) (.slu (.var 0) (.int 63)) (bs [.asg 4 false (.bi .abs (.bi .int (.var 3))), .ite (.cmp .ge (.var 4) (.bin .pow (.int 10) (.int 18))) (bs [.for_ [.frz, .frz, .own, .frz, .frz, .dead, .dead, .dead] (.nm 5) (.rng1 (.int 60)) (bs [.ite (.cmp .gt (.var 4) (.int 0)) (bs [.app 2 (.bin .mod (.var 4) (.int 1000003)), .asg 4 false (.bin .fdiv (.var 4) (.int 1000003))]) (bs [])])]) (bs [.asg 6 false (.bin .mod (.bin .add (.bin .add (.bin .mul (.var 4) (.int 48271)) (.bin .mul (.int 7) (.bi .len (.var 2)))) (.int 11)) (.int 2147483647)), .for_ [.frz, .frz, .own, .frz, .frz, .dead, .frz, .dead] (.nm 5) (.rng1 (.int 4)) (bs [.asg 6 false (.bin .mod (.bin .add (.bin .add (.bin .add (.bin .mul (.var 6) (.int 69621)) (.bin .fdiv (.var 6) (.int 65536))) (.bin .mul (.int 13) (.var 5))) (.int 5)) (.int 2147483629)), .app 2 (.bin .mod (.bin .fdiv (.var 6) (.int 8)) (.int 1000003))])])]), .for_ [.frz, .frz, .own, .dead, .dead, .dead, .dead, .dead] (.nm 5) (.rng1 (.var 1)) (bs [.ite (.cmp .lt (.bi .len (.var 2)) (.var 1)) (bs [.asg 7 false (.int 0), .ite (.cmp .gt (.bi .len (.var 2)) (.int 0)) (bs [.asg 7 false (.ix (.var 2) (.bin .mod (.var 5) (.bi .len (.var 2))))]) (bs []), .app 2 (.bin .mod (.bin .add (.bin .add (.bin .mul (.var 7) (.int 16807)) (.bin .mul (.int 31) (.bi .len (.var 2)))) (.int 17)) (.int 1000003))]) (bs [])]), .ret (.slu (.var 2) (.var 1))]⟩⟩
def d_law_cell : Df := ⟨"_law_cell", ["draws", "k"], true, ⟨2, 2, bs [.ret (.bin .fdiv (.ix (.var 0) (.bin .mod (.var 1) (.bi .len (.var 0)))) (.bin .add (.int 1) (.bin .mod (.bin .fdiv (.var 1) (.bi .len (.var 0))) (.int 7))))]⟩⟩
def d_law_simple : Df := ⟨"_law_simple", ["draws", "at", "accounts", "cell", "one", "two", "three", "book", "kind", "many"], false, ⟨3, 10, bs [.asg 3 false (.call .frz "_law_cell" (.cons (.var 0) (.cons (.var 1) .nil))), .unp [4, 5, 6] (.lc [9] (.nm 9) (.lst (.cons (.int 7) (.cons (.int 21) (.cons (.int 63) .nil)))) false (.non) (.ix (.lst (.cons (.str "va") (.cons (.str "vb") (.cons (.str "vc") .nil)))) (.bin .mod (.bin .fdiv (.var 3) (.var 9)) (.int 3)))), .asg 7 false (.ix (.lst (.cons (.str "xa") (.cons (.str "xb") (.cons (.str "xc") (.cons (.str "xd") (.cons (.str "xe") .nil)))))) (.bin .mod (.bin .fdiv (.var 3) (.int 11)) (.var 2))), .asg 8 false (.bin .mod (.var 3) (.int 13)), .ite (.cmp .lt (.var 8) (.int 3)) (bs [.ret (.tup (.cons (.str "read") (.cons (.var 4) (.cons (.var 7) .nil))))]) (bs []), .ite (.cmp .lt (.var 8) (.int 6)) (bs [.ret (.tup (.cons (.str "write") (.cons (.var 7) (.cons (.var 4) .nil))))]) (bs []), .ite (.cmp .eq (.var 8) (.int 6)) (bs [.ret (.tup (.cons (.str "num") (.cons (.var 4) (.cons (.bin .sub (.bin .mod (.bin .fdiv (.var 3) (.int 13)) (.int 9)) (.int 3)) .nil))))]) (bs []), .ite (.cmp .eq (.var 8) (.int 7)) (bs [.ret (.tup (.cons (.str "copy") (.cons (.var 4) (.cons (.var 5) .nil))))]) (bs []), .ite (.cmp .lt (.var 8) (.int 10)) (bs [.ret (.tup (.cons (.ix (.lst (.cons (.str "add") (.cons (.str "sub") .nil))) (.bin .sub (.var 8) (.int 8))) (.cons (.var 4) (.cons (.var 5) (.cons (.var 6) .nil)))))]) (bs []), .ite (.cmp .eq (.var 8) (.int 10)) (bs [.ret (.tup (.cons (.ix (.lst (.cons (.str "less") (.cons (.str "same") .nil))) (.bin .mod (.bin .fdiv (.var 3) (.int 13)) (.int 2))) (.cons (.var 4) (.cons (.var 5) (.cons (.var 6) .nil)))))]) (bs []), .ite (.cmp .eq (.var 8) (.int 11)) (bs [.ret (.tup (.cons (.str "say") (.cons (.var 4) .nil)))]) (bs []), .ret (.ix (.lst (.cons (.tup (.cons (.str "need") (.cons (.var 4) .nil))) (.cons (.tup (.cons (.str "skip") .nil)) (.cons (.tup (.cons (.str "add") (.cons (.var 4) (.cons (.var 4) (.cons (.var 5) .nil))))) .nil)))) (.bin .mod (.bin .fdiv (.var 3) (.int 13)) (.int 3)))]⟩⟩
def d_law_statement : Df := ⟨"_law_statement", ["draws", "at", "accounts", "ifs", "cell", "first", "other", "k"], false, ⟨4, 8, bs [.asg 4 false (.call .frz "_law_cell" (.cons (.var 0) (.cons (.bin .add (.var 1) (.int 7)) .nil))), .ite (.and (.var 3) (.cmp .eq (.bin .mod (.var 4) (.int 6)) (.int 4))) (bs [.asg 5 false (.bi .tuple (.lc [7] (.nm 7) (.rng1 (.bin .mod (.bin .fdiv (.var 4) (.int 6)) (.int 3))) false (.non) (.call .frz "_law_simple" (.cons (.var 0) (.cons (.bin .add (.bin .add (.var 1) (.int 20)) (.var 7)) (.cons (.var 2) .nil)))))), .asg 6 false (.bi .tuple (.lc [7] (.nm 7) (.rng1 (.bin .mod (.bin .fdiv (.var 4) (.int 18)) (.int 2))) false (.non) (.call .frz "_law_simple" (.cons (.var 0) (.cons (.bin .add (.bin .add (.var 1) (.int 30)) (.var 7)) (.cons (.var 2) .nil)))))), .ret (.tup (.cons (.str "if") (.cons (.ix (.lst (.cons (.str "va") (.cons (.str "vb") (.cons (.str "vc") .nil)))) (.bin .mod (.bin .fdiv (.var 4) (.int 36)) (.int 3))) (.cons (.var 5) (.cons (.var 6) .nil)))))]) (bs []), .ret (.call .frz "_law_simple" (.cons (.var 0) (.cons (.var 1) (.cons (.var 2) .nil))))]⟩⟩
def d_law_rule : Df := ⟨"_law_rule", ["draws", "at"], false, ⟨2, 2, bs [.ret (.ix (.lst (.cons (.str "latest") (.cons (.str "picture") (.cons (.str "alone") (.cons (.str "latest") (.cons (.str "picture") .nil)))))) (.bin .mod (.bin .fdiv (.call .frz "_law_cell" (.cons (.var 0) (.cons (.var 1) .nil))) (.int 3)) (.int 5)))]⟩⟩
def d_law_house : Df := ⟨"_law_house", ["draws", "at", "accounts", "jobs", "most", "ifs", "books", "found", "k", "many", "body", "j"], false, ⟨6, 12, bs [.asg 6 false (.bi .tuple (.lc [8] (.nm 8) (.rng1 (.var 2)) false (.non) (.tup (.cons (.ix (.lst (.cons (.str "xa") (.cons (.str "xb") (.cons (.str "xc") (.cons (.str "xd") (.cons (.str "xe") .nil)))))) (.var 8)) (.cons (.bin .sub (.bin .mod (.call .frz "_law_cell" (.cons (.var 0) (.cons (.bin .add (.var 1) (.var 8)) .nil))) (.int 9)) (.int 2)) .nil))))), .asg 7 true (.lst .nil), .for_ [.frz, .frz, .frz, .frz, .frz, .frz, .frz, .own, .dead, .dead, .dead, .dead] (.nm 8) (.rng1 (.var 3)) (bs [.asg 9 false (.bin .mod (.bin .fdiv (.call .frz "_law_cell" (.cons (.var 0) (.cons (.bin .add (.bin .add (.var 1) (.int 5)) (.var 8)) .nil))) (.int 5)) (.bin .add (.var 4) (.int 1))), .asg 10 false (.bi .tuple (.lc [11] (.nm 11) (.rng1 (.var 9)) false (.non) (.call .frz "_law_statement" (.cons (.var 0) (.cons (.bin .add (.bin .add (.bin .add (.var 1) (.int 10)) (.bin .mul (.int 17) (.var 8))) (.bin .mul (.int 3) (.var 11))) (.cons (.var 2) (.cons (.var 5) .nil))))))), .app 7 (.tup (.cons (.ix (.lst (.cons (.str "ja") (.cons (.str "jb") (.cons (.str "jc") (.cons (.str "jd") (.cons (.str "je") .nil)))))) (.var 8)) (.cons (.call .frz "_law_rule" (.cons (.var 0) (.cons (.bin .add (.bin .add (.var 1) (.int 40)) (.var 8)) .nil))) (.cons (.var 10) .nil))))]), .ret (.tup (.cons (.var 6) (.cons (.bi .tuple (.var 7)) .nil)))]⟩⟩
def d_law_straight_body : Df := ⟨"_law_straight_body", ["draws", "at", "accounts", "most", "body", "read", "wrote", "k", "cell", "book", "name"], true, ⟨4, 11, bs [.asg 4 true (.slu (.lst (.cons (.tup (.cons (.str "num") (.cons (.str "vb") (.cons (.bin .mod (.call .frz "_law_cell" (.cons (.var 0) (.cons (.var 1) .nil))) (.int 5)) .nil)))) .nil)) (.bin .mod (.bin .fdiv (.call .frz "_law_cell" (.cons (.var 0) (.cons (.var 1) .nil))) (.int 5)) (.int 2))), .par 5 6 true true (.lst .nil) (.lst .nil), .for_ [.frz, .frz, .frz, .frz, .own, .own, .own, .dead, .dead, .dead, .dead] (.nm 7) (.rng1 (.var 3)) (bs [.asg 8 false (.call .frz "_law_cell" (.cons (.var 0) (.cons (.bin .add (.bin .add (.var 1) (.int 1)) (.var 7)) .nil))), .asg 9 false (.bin .mod (.bin .fdiv (.var 8) (.int 3)) (.var 2)), .asg 10 false (.ix (.lst (.cons (.str "xa") (.cons (.str "xb") (.cons (.str "xc") (.cons (.str "xd") (.cons (.str "xe") .nil)))))) (.var 9)), .ite (.and (.cmp .eq (.bin .mod (.var 8) (.int 2)) (.int 0)) (.and (.cmp .nin (.var 9) (.var 5)) (.cmp .nin (.var 9) (.var 6)))) (bs [.app 5 (.var 9), .app 4 (.tup (.cons (.str "read") (.cons (.ix (.lst (.cons (.str "va") (.cons (.str "vb") (.cons (.str "vc") .nil)))) (.bin .mod (.bin .fdiv (.var 8) (.int 15)) (.int 3))) (.cons (.var 10) .nil))))]) (bs [.ite (.and (.cmp .eq (.bin .mod (.var 8) (.int 2)) (.int 1)) (.cmp .nin (.var 9) (.var 6))) (bs [.app 6 (.var 9), .ite (.cmp .gt (.bin .mod (.bin .fdiv (.var 8) (.int 30)) (.int 3)) (.int 0)) (bs [.app 4 (.ix (.lst (.cons (.tup (.cons (.str "add") (.cons (.str "va") (.cons (.str "va") (.cons (.str "vb") .nil))))) (.cons (.tup (.cons (.str "num") (.cons (.str "va") (.cons (.bin .mod (.bin .fdiv (.var 8) (.int 90)) (.int 7)) .nil)))) (.cons (.tup (.cons (.str "sub") (.cons (.str "vc") (.cons (.str "va") (.cons (.str "vb") .nil))))) .nil)))) (.bin .mod (.bin .fdiv (.var 8) (.int 90)) (.int 3)))]) (bs []), .app 4 (.tup (.cons (.str "write") (.cons (.var 10) (.cons (.ix (.lst (.cons (.str "va") (.cons (.str "vb") (.cons (.str "vc") .nil)))) (.bin .mod (.bin .fdiv (.var 8) (.int 45)) (.int 3))) .nil))))]) (bs [])])]), .ite (.cmp .eq (.bin .mod (.bin .fdiv (.call .frz "_law_cell" (.cons (.var 0) (.cons (.var 1) .nil))) (.int 10)) (.int 4)) (.int 0)) (bs [.app 4 (.tup (.cons (.str "say") (.cons (.str "va") .nil)))]) (bs []), .ret (.bi .tuple (.var 4))]⟩⟩
def d_law_straight_house : Df := ⟨"_law_straight_house", ["draws", "at", "accounts", "jobs", "most", "books", "found", "k", "body"], false, ⟨5, 9, bs [.asg 5 false (.bi .tuple (.lc [7] (.nm 7) (.rng1 (.var 2)) false (.non) (.tup (.cons (.ix (.lst (.cons (.str "xa") (.cons (.str "xb") (.cons (.str "xc") (.cons (.str "xd") (.cons (.str "xe") .nil)))))) (.var 7)) (.cons (.bin .sub (.bin .mod (.call .frz "_law_cell" (.cons (.var 0) (.cons (.bin .add (.var 1) (.var 7)) .nil))) (.int 9)) (.int 2)) .nil))))), .asg 6 true (.lst .nil), .for_ [.frz, .frz, .frz, .frz, .frz, .frz, .own, .dead, .dead] (.nm 7) (.rng1 (.var 3)) (bs [.asg 8 false (.call .frz "_law_straight_body" (.cons (.var 0) (.cons (.bin .add (.bin .add (.var 1) (.int 10)) (.bin .mul (.int 11) (.var 7))) (.cons (.var 2) (.cons (.var 4) .nil))))), .app 6 (.tup (.cons (.ix (.lst (.cons (.str "ja") (.cons (.str "jb") (.cons (.str "jc") (.cons (.str "jd") (.cons (.str "je") .nil)))))) (.var 7)) (.cons (.call .frz "_law_rule" (.cons (.var 0) (.cons (.bin .add (.bin .add (.var 1) (.int 40)) (.var 7)) .nil))) (.cons (.var 8) .nil))))]), .ret (.tup (.cons (.var 5) (.cons (.bi .tuple (.var 6)) .nil)))]⟩⟩
def d_law_same : Df := ⟨"_law_same", ["one", "other", "k"], false, ⟨2, 3, bs [.ite (.isi (.var 1) [.list, .tuple]) (bs [.ite (.or (.cmp .ne (.isi (.var 0) [.list]) (.isi (.var 1) [.list])) (.or (.cmp .ne (.isi (.var 0) [.tuple]) (.isi (.var 1) [.tuple])) (.cmp .ne (.bi .len (.var 0)) (.bi .len (.var 1))))) (bs [.ret (.bl false)]) (bs []), .ret (.cmp .eq (.lc [2] (.nm 2) (.rng1 (.bi .len (.var 1))) true (.not (.call .frz "_law_same" (.cons (.ix (.var 0) (.var 2)) (.cons (.ix (.var 1) (.var 2)) .nil)))) (.var 2)) (.lst .nil))]) (bs []), .ite (.isN (.var 1) false) (bs [.ret (.isN (.var 0) false)]) (bs []), .ite (.isi (.var 1) [.bool]) (bs [.ret (.and (.isi (.var 0) [.bool]) (.cmp .eq (.var 0) (.var 1)))]) (bs []), .ite (.isi (.var 1) [.str]) (bs [.ret (.and (.isi (.var 0) [.str]) (.cmp .eq (.var 0) (.var 1)))]) (bs []), .ret (.and (.isi (.var 0) [.int]) (.and (.not (.isi (.var 0) [.bool])) (.cmp .eq (.var 0) (.var 1))))]⟩⟩
def d_law_account : Df := ⟨"_law_account", ["house", "name", "one"], false, ⟨2, 3, bs [.ret (.mth .index (.lc [2] (.nm 2) (.ix (.var 0) (.int 0)) false (.non) (.ix (.var 2) (.int 0))) (.var 1))]⟩⟩
def d_law_ways_in : Df := ⟨"_law_ways_in", ["house", "body", "rows", "told", "tails", "longer", "row", "tail"], false, ⟨2, 8, bs [.asg 2 false (.lst (.cons (.tup .nil) .nil)), .for_ [.frz, .frz, .frz, .dead, .dead, .dead, .dead, .dead] (.nm 3) (.var 1) (bs [.asg 4 false (.lst (.cons (.tup .nil) .nil)), .ite (.cmp .eq (.ix (.var 3) (.int 0)) (.str "read")) (bs [.asg 4 false (.lst (.cons (.tup (.cons (.tup (.cons (.str "reads") (.cons (.call .frz "_law_account" (.cons (.var 0) (.cons (.ix (.var 3) (.int 2)) .nil))) .nil))) .nil)) .nil))]) (bs []), .ite (.cmp .eq (.ix (.var 3) (.int 0)) (.str "write")) (bs [.asg 4 false (.lst (.cons (.tup (.cons (.tup (.cons (.str "writes") (.cons (.call .frz "_law_account" (.cons (.var 0) (.cons (.ix (.var 3) (.int 1)) .nil))) .nil))) .nil)) .nil))]) (bs []), .ite (.cmp .eq (.ix (.var 3) (.int 0)) (.str "if")) (bs [.asg 4 false (.bin .add (.call .frz "_law_ways_in" (.cons (.var 0) (.cons (.ix (.var 3) (.int 2)) .nil))) (.call .frz "_law_ways_in" (.cons (.var 0) (.cons (.ix (.var 3) (.int 3)) .nil))))]) (bs []), .asg 5 false (.lst .nil), .for_ [.frz, .frz, .frz, .frz, .frz, .frz, .dead, .dead] (.nm 6) (.var 2) (bs [.asg 5 false (.bin .add (.var 5) (.lc [7] (.nm 7) (.var 4) false (.non) (.bin .add (.var 6) (.var 7))))]), .asg 2 false (.bi .sset (.var 5))]), .ret (.var 2)]⟩⟩
def d_law_meet : Df := ⟨"_law_meet", ["first", "second", "one"], false, ⟨2, 3, bs [.ret (.cmp .ne (.lc [2] (.nm 2) (.var 0) true (.or (.cmp .inn (.tup (.cons (.str "writes") (.cons (.ix (.var 2) (.int 1)) .nil))) (.var 1)) (.and (.cmp .eq (.ix (.var 2) (.int 0)) (.str "writes")) (.cmp .inn (.tup (.cons (.str "reads") (.cons (.ix (.var 2) (.int 1)) .nil))) (.var 1)))) (.var 2)) (.lst .nil))]⟩⟩
def d_law_family : Df := ⟨"_law_family", ["draws", "at", "cell", "rules", "first", "counter", "skew", "pay", "ring", "look", "bodies", "books", "k", "name"], false, ⟨2, 14, bs [.par 2 3 false false (.call .frz "_law_cell" (.cons (.var 0) (.cons (.var 1) .nil))) (.lc [12] (.nm 12) (.rng1 (.int 4)) false (.non) (.call .frz "_law_rule" (.cons (.var 0) (.cons (.bin .add (.bin .add (.var 1) (.int 1)) (.var 12)) .nil)))), .asg 4 false (.bin .sub (.bin .mod (.call .frz "_law_cell" (.cons (.var 0) (.cons (.bin .add (.var 1) (.int 5)) .nil))) (.int 9)) (.int 2)), .asg 5 false (.tup (.cons (.tup (.cons (.str "read") (.cons (.str "va") (.cons (.str "xa") .nil)))) (.cons (.tup (.cons (.str "num") (.cons (.str "vb") (.cons (.bin .add (.int 1) (.bin .mod (.bin .fdiv (.var 2) (.int 5)) (.int 3))) .nil)))) (.cons (.tup (.cons (.str "add") (.cons (.str "va") (.cons (.str "va") (.cons (.str "vb") .nil))))) (.cons (.tup (.cons (.str "write") (.cons (.str "xa") (.cons (.str "va") .nil)))) .nil))))), .asg 6 false (.lc [13] (.nm 13) (.lst (.cons (.str "xa") (.cons (.str "xb") .nil))) false (.non) (.tup (.cons (.tup (.cons (.str "read") (.cons (.str "va") (.cons (.str "xa") .nil)))) (.cons (.tup (.cons (.str "read") (.cons (.str "vb") (.cons (.str "xb") .nil)))) (.cons (.tup (.cons (.str "add") (.cons (.str "va") (.cons (.str "va") (.cons (.str "vb") .nil))))) (.cons (.tup (.cons (.str "write") (.cons (.var 13) (.cons (.str "va") .nil)))) .nil)))))), .asg 7 false (.tup (.cons (.tup (.cons (.str "read") (.cons (.str "va") (.cons (.str "xa") .nil)))) (.cons (.tup (.cons (.str "num") (.cons (.str "vc") (.cons (.bin .add (.int 1) (.bin .mod (.bin .fdiv (.var 2) (.int 7)) (.int 4))) .nil)))) (.cons (.tup (.cons (.str "sub") (.cons (.str "va") (.cons (.str "va") (.cons (.str "vc") .nil))))) (.cons (.tup (.cons (.str "write") (.cons (.str "xa") (.cons (.str "va") .nil)))) (.cons (.tup (.cons (.str "read") (.cons (.str "vb") (.cons (.str "xb") .nil)))) (.cons (.tup (.cons (.str "add") (.cons (.str "vb") (.cons (.str "vb") (.cons (.str "vc") .nil))))) (.cons (.tup (.cons (.str "write") (.cons (.str "xb") (.cons (.str "vb") .nil)))) .nil)))))))), .asg 8 false (.lc [12] (.nm 12) (.rng1 (.int 3)) false (.non) (.tup (.cons (.tup (.cons (.str "read") (.cons (.str "va") (.cons (.ix (.lst (.cons (.str "xa") (.cons (.str "xb") (.cons (.str "xc") .nil)))) (.var 12)) .nil)))) (.cons (.tup (.cons (.str "num") (.cons (.str "vb") (.cons (.bin .add (.int 2) (.var 12)) .nil)))) (.cons (.tup (.cons (.str "add") (.cons (.str "va") (.cons (.str "va") (.cons (.str "vb") .nil))))) (.cons (.tup (.cons (.str "write") (.cons (.ix (.lst (.cons (.str "xb") (.cons (.str "xc") (.cons (.str "xa") .nil)))) (.var 12)) (.cons (.str "va") .nil)))) .nil)))))), .asg 9 false (.lst (.cons (.tup (.cons (.tup (.cons (.str "read") (.cons (.str "va") (.cons (.str "xa") .nil)))) (.cons (.tup (.cons (.str "read") (.cons (.str "vb") (.cons (.str "xb") .nil)))) (.cons (.tup (.cons (.str "say") (.cons (.str "va") .nil))) (.cons (.tup (.cons (.str "say") (.cons (.str "vb") .nil))) .nil))))) (.cons (.tup (.cons (.tup (.cons (.str "num") (.cons (.str "va") (.cons (.int 5) .nil)))) (.cons (.tup (.cons (.str "write") (.cons (.str "xa") (.cons (.str "va") .nil)))) .nil))) (.cons (.tup (.cons (.tup (.cons (.str "read") (.cons (.str "vb") (.cons (.str "xa") .nil)))) (.cons (.tup (.cons (.str "write") (.cons (.str "xb") (.cons (.str "vb") .nil)))) .nil))) .nil)))), .asg 10 false (.ix (.lst (.cons (.bin .mul (.lst (.cons (.var 5) .nil)) (.bin .add (.int 2) (.bin .mod (.bin .fdiv (.var 2) (.int 15)) (.int 2)))) (.cons (.var 6) (.cons (.lst (.cons (.var 7) (.cons (.var 7) .nil))) (.cons (.var 8) (.cons (.var 9) .nil)))))) (.bin .mod (.var 2) (.int 5))), .asg 11 false (.slu (.tup (.cons (.tup (.cons (.str "xa") (.cons (.var 4) .nil))) (.cons (.tup (.cons (.str "xb") (.cons (.bin .add (.var 4) (.int 3)) .nil))) (.cons (.tup (.cons (.str "xc") (.cons (.int 4) .nil))) .nil)))) (.ix (.lst (.cons (.int 1) (.cons (.int 2) (.cons (.int 2) (.cons (.int 3) (.cons (.int 2) .nil)))))) (.bin .mod (.var 2) (.int 5)))), .ret (.tup (.cons (.var 11) (.cons (.bi .tuple (.lc [12] (.nm 12) (.rng1 (.bi .len (.var 10))) false (.non) (.tup (.cons (.ix (.lst (.cons (.str "ja") (.cons (.str "jb") (.cons (.str "jc") .nil)))) (.var 12)) (.cons (.ix (.var 3) (.var 12)) (.cons (.ix (.var 10) (.var 12)) .nil)))))) .nil)))]⟩⟩
def d_law_mixed : Df := ⟨"_law_mixed", ["draws", "k", "one"], true, ⟨2, 3, bs [.asg 2 false (.bin .add (.bin .mul (.ix (.var 0) (.bin .mod (.var 1) (.bi .len (.var 0)))) (.bin .add (.bin .mul (.int 2) (.var 1)) (.int 3))) (.ix (.var 0) (.bin .mod (.bin .add (.bin .mul (.int 7) (.var 1)) (.int 5)) (.bi .len (.var 0))))), .ret (.bin .fdiv (.bin .mod (.bin .add (.bin .add (.bin .mul (.var 2) (.int 16807)) (.bin .fdiv (.var 2) (.int 127))) (.var 1)) (.int 2147483629)) (.int 16))]⟩⟩
def d_law_copy : Df := ⟨"_law_copy", ["value", "one"], false, ⟨1, 2, bs [.ite (.isi (.var 0) [.list]) (bs [.ret (.lc [1] (.nm 1) (.var 0) false (.non) (.call .frz "_law_copy" (.cons (.var 1) .nil)))]) (bs []), .ite (.isi (.var 0) [.tuple]) (bs [.ret (.bi .tuple (.lc [1] (.nm 1) (.var 0) false (.non) (.call .frz "_law_copy" (.cons (.var 1) .nil))))]) (bs []), .ret (.var 0)]⟩⟩
def d_law_without_needs : Df := ⟨"_law_without_needs", ["house", "jobs", "name", "rule", "body", "told"], false, ⟨1, 6, bs [.asg 1 true (.lst .nil), .for_ [.frz, .own, .dead, .dead, .dead, .dead] (.tp [2, 3, 4]) (.ix (.var 0) (.int 1)) (bs [.app 1 (.tup (.cons (.var 2) (.cons (.var 3) (.cons (.bi .tuple (.lc [5] (.nm 5) (.var 4) false (.non) (.ix (.lst (.cons (.var 5) (.cons (.tup (.cons (.str "skip") .nil)) .nil))) (.bi .int (.cmp .eq (.ix (.var 5) (.int 0)) (.str "need")))))) .nil))))]), .ret (.tup (.cons (.ix (.var 0) (.int 0)) (.cons (.bi .tuple (.var 1)) .nil)))]⟩⟩
def d_law_plain_house : Df := ⟨"_law_plain_house", ["draws", "at", "cell", "jobs", "most"], false, ⟨2, 5, bs [.asg 2 false (.call .frz "_law_mixed" (.cons (.var 0) (.cons (.var 1) .nil))), .ite (.cmp .eq (.bin .mod (.var 2) (.int 3)) (.int 0)) (bs [.ret (.call .frz "_law_family" (.cons (.var 0) (.cons (.bin .add (.var 1) (.int 1)) .nil)))]) (bs []), .ite (.cmp .eq (.bin .mod (.var 2) (.int 3)) (.int 1)) (bs [.ret (.call .frz "_law_straight_house" (.cons (.var 0) (.cons (.bin .add (.var 1) (.int 1)) (.cons (.bin .add (.int 1) (.bin .mod (.bin .fdiv (.var 2) (.int 3)) (.int 4))) (.cons (.bin .add (.int 2) (.bin .mod (.bin .fdiv (.var 2) (.int 12)) (.int 3))) (.cons (.int 4) .nil))))))]) (bs []), .unp [3, 4] (.ix (.lst (.cons (.tup (.cons (.int 2) (.cons (.int 6) .nil))) (.cons (.tup (.cons (.int 3) (.cons (.int 5) .nil))) (.cons (.tup (.cons (.int 4) (.cons (.int 4) .nil))) (.cons (.tup (.cons (.int 5) (.cons (.int 8) .nil))) (.cons (.tup (.cons (.int 1) (.cons (.int 7) .nil))) (.cons (.tup (.cons (.int 3) (.cons (.int 3) .nil))) (.cons (.tup (.cons (.int 2) (.cons (.int 3) .nil))) (.cons (.tup (.cons (.int 0) (.cons (.int 1) .nil))) .nil))))))))) (.bin .mod (.bin .fdiv (.var 2) (.int 3)) (.int 8))), .ret (.call .frz "_law_without_needs" (.cons (.call .frz "_law_house" (.cons (.var 0) (.cons (.bin .add (.var 1) (.int 1)) (.cons (.ix (.lst (.cons (.int 3) (.cons (.int 5) (.cons (.int 4) (.cons (.int 2) .nil))))) (.bin .mod (.bin .fdiv (.var 2) (.int 24)) (.int 4))) (.cons (.var 3) (.cons (.var 4) (.cons (.bl false) .nil))))))) .nil))]⟩⟩
def d_law_cuts : Df := ⟨"_law_cuts", ["draws", "at", "house", "found", "job", "cell", "place"], true, ⟨3, 7, bs [.asg 3 true (.lst .nil), .for_ [.frz, .frz, .frz, .own, .dead, .dead, .dead] (.nm 4) (.rng1 (.bi .len (.ix (.var 2) (.int 1)))) (bs [.asg 5 false (.call .frz "_law_mixed" (.cons (.var 0) (.cons (.bin .add (.var 1) (.var 4)) .nil))), .app 3 (.lc [6] (.nm 6) (.rng2 (.int 1) (.bi .len (.ix (.ix (.ix (.var 2) (.int 1)) (.var 4)) (.int 2)))) true (.or (.cmp .eq (.bin .mod (.var 5) (.int 5)) (.int 1)) (.and (.cmp .gt (.bin .mod (.var 5) (.int 5)) (.int 1)) (.cmp .eq (.bin .mod (.bin .fdiv (.bin .fdiv (.var 5) (.int 5)) (.bin .add (.bin .mul (.var 6) (.var 6)) (.int 1))) (.int 3)) (.int 0)))) (.var 6))]), .ret (.var 3)]⟩⟩
def d_law_pieces : Df := ⟨"_law_pieces", ["house", "cuts", "job", "body", "places", "k"], true, ⟨3, 6, bs [.par 3 4 false false (.ix (.ix (.ix (.var 0) (.int 1)) (.var 2)) (.int 2)) (.bin .add (.lst (.cons (.int 0) .nil)) (.ix (.var 1) (.var 2))), .ret (.lc [5] (.nm 5) (.rng1 (.bi .len (.var 4))) false (.non) (.slb (.var 3) (.ix (.var 4) (.var 5)) (.ix (.bin .add (.var 4) (.lst (.cons (.bi .len (.var 3)) .nil))) (.bin .add (.var 5) (.int 1)))))]⟩⟩
def d_law_accesses : Df := ⟨"_law_accesses", ["house", "body"], false, ⟨2, 2, bs [.ret (.ix (.call .frz "_law_ways_in" (.cons (.var 0) (.cons (.var 1) .nil))) (.int 0))]⟩⟩
def d_law_bunches : Df := ⟨"_law_bunches", ["house", "job", "found", "other", "mine", "met", "joined", "bunch", "one"], true, ⟨2, 9, bs [.asg 2 false (.lst .nil), .for_ [.frz, .frz, .frz, .dead, .dead, .dead, .dead, .dead, .dead] (.nm 3) (.lc [3] (.nm 3) (.rng1 (.bi .len (.ix (.var 0) (.int 1)))) true (.cmp .ne (.var 3) (.var 1)) (.var 3)) (bs [.asg 4 false (.call .frz "_law_accesses" (.cons (.var 0) (.cons (.ix (.ix (.ix (.var 0) (.int 1)) (.var 3)) (.int 2)) .nil))), .asg 5 false (.lc [7] (.nm 7) (.var 2) true (.cmp .ne (.lc [8] (.nm 8) (.var 7) true (.call .frz "_law_meet" (.cons (.var 4) (.cons (.call .frz "_law_accesses" (.cons (.var 0) (.cons (.ix (.ix (.ix (.var 0) (.int 1)) (.var 8)) (.int 2)) .nil))) .nil))) (.var 8)) (.lst .nil)) (.var 7)), .asg 6 false (.lst (.cons (.var 3) .nil)), .for_ [.frz, .frz, .frz, .frz, .frz, .frz, .frz, .dead, .dead] (.nm 7) (.var 5) (bs [.asg 6 false (.bin .add (.var 6) (.var 7))]), .asg 2 false (.bin .add (.lc [7] (.nm 7) (.var 2) true (.cmp .nin (.var 7) (.var 5)) (.var 7)) (.lst (.cons (.bi .sorted (.var 6)) .nil)))]), .ret (.bi .sorted (.var 2))]⟩⟩
def d_law_is_place : Df := ⟨"_law_is_place", ["value", "many"], false, ⟨2, 2, bs [.ret (.and (.isi (.var 0) [.int]) (.and (.not (.isi (.var 0) [.bool])) (.chn .le .lt (.int 0) (.var 0) (.var 1))))]⟩⟩
def d_law_odd_values : Df := ⟨"_law_odd_values", [], true, ⟨0, 0, bs [.ret (.lst (.cons (.non) (.cons (.bl true) (.cons (.bl false) (.cons (.int 0) (.cons (.int 1) (.cons (.neg (.int 1)) (.cons (.str "") (.cons (.str "right") (.cons (.str "crossed") (.cons (.tup .nil) (.cons (.lst .nil) (.cons (.lst (.cons (.lst .nil) .nil)) (.cons (.tup (.cons (.tup .nil) .nil)) (.cons (.lst (.cons (.non) .nil)) (.cons (.tup (.cons (.str "right") .nil)) (.cons (.lst (.cons (.str "right") (.cons (.lst .nil) .nil))) (.cons (.tup (.cons (.str "crossed") (.cons (.int 0) (.cons (.int 0) (.cons (.int 1) .nil))))) (.cons (.tup (.cons (.str "right") (.cons (.non) .nil))) (.cons (.tup (.cons (.str "right") (.cons (.lst .nil) (.cons (.lst .nil) .nil)))) (.cons (.lst (.cons (.lst (.cons (.lst (.cons (.lst (.cons (.lst (.cons (.int 0) .nil)) .nil)) .nil)) .nil)) .nil)) .nil)))))))))))))))))))))]⟩⟩
def d_law_is_crossed : Df := ⟨"_law_is_crossed", ["house", "cuts", "paper", "many", "job", "i", "j", "row", "parts", "k", "texts", "text", "one"], false, ⟨3, 13, bs [.asg 3 false (.bi .len (.ix (.var 0) (.int 1))), .ite (.or (.not (.isi (.var 2) [.tuple])) (.or (.cmp .ne (.bi .len (.var 2)) (.int 5)) (.or (.not (.call .frz "_law_same" (.cons (.ix (.var 2) (.int 0)) (.cons (.str "crossed") .nil)))) (.not (.call .frz "_law_is_place" (.cons (.ix (.var 2) (.int 1)) (.cons (.var 3) .nil))))))) (bs [.ret (.bl false)]) (bs []), .unp [4, 5, 6, 7] (.sll (.var 2) (.int 1)), .asg 8 false (.call .frz "_law_pieces" (.cons (.var 0) (.cons (.var 1) (.cons (.var 4) .nil)))), .ite (.or (.not (.call .frz "_law_is_place" (.cons (.var 6) (.cons (.bi .len (.var 8)) .nil)))) (.or (.not (.call .frz "_law_is_place" (.cons (.var 5) (.cons (.var 6) .nil)))) (.or (.not (.isi (.var 7) [.list])) (.cmp .eq (.var 7) (.lst .nil))))) (bs [.ret (.bl false)]) (bs []), .for_ [.frz, .frz, .frz, .frz, .frz, .frz, .frz, .frz, .frz, .dead, .dead, .dead, .dead] (.nm 9) (.rng1 (.bi .len (.var 7))) (bs [.ite (.or (.not (.call .frz "_law_is_place" (.cons (.ix (.var 7) (.var 9)) (.cons (.var 3) .nil)))) (.or (.cmp .eq (.ix (.var 7) (.var 9)) (.var 4)) (.cmp .inn (.ix (.var 7) (.var 9)) (.slu (.var 7) (.var 9))))) (bs [.ret (.bl false)]) (bs [])]), .asg 10 false (.lc [11] (.nm 11) (.bin .add (.bin .add (.lst (.cons (.ix (.var 8) (.var 5)) .nil)) (.lc [12] (.nm 12) (.var 7) false (.non) (.ix (.ix (.ix (.var 0) (.int 1)) (.var 12)) (.int 2)))) (.lst (.cons (.ix (.var 8) (.var 6)) .nil))) false (.non) (.call .frz "_law_accesses" (.cons (.var 0) (.cons (.var 11) .nil)))), .ret (.cmp .eq (.lc [9] (.nm 9) (.rng1 (.bin .sub (.bi .len (.var 10)) (.int 1))) true (.not (.call .frz "_law_meet" (.cons (.ix (.var 10) (.var 9)) (.cons (.ix (.var 10) (.bin .add (.var 9) (.int 1))) .nil)))) (.var 9)) (.lst .nil))]⟩⟩
def d_law_is_bunches : Df := ⟨"_law_is_bunches", ["house", "cuts", "job", "bunches", "seen", "bunch", "other", "whole", "parts", "at", "strangers", "name", "rule", "body", "piece", "one", "part"], false, ⟨4, 17, bs [.ite (.not (.isi (.var 3) [.list])) (bs [.ret (.bl false)]) (bs []), .asg 4 true (.lst .nil), .for_ [.frz, .frz, .frz, .frz, .own, .dead, .dead, .dead, .dead, .dead, .dead, .dead, .dead, .dead, .dead, .dead, .dead] (.nm 5) (.var 3) (bs [.ite (.or (.not (.isi (.var 5) [.list])) (.cmp .eq (.var 5) (.lst .nil))) (bs [.ret (.bl false)]) (bs []), .for_ [.frz, .frz, .frz, .frz, .own, .frz, .dead, .dead, .dead, .dead, .dead, .dead, .dead, .dead, .dead, .dead, .dead] (.nm 6) (.var 5) (bs [.ite (.or (.not (.call .frz "_law_is_place" (.cons (.var 6) (.cons (.bi .len (.ix (.var 0) (.int 1))) .nil)))) (.or (.cmp .eq (.var 6) (.var 2)) (.cmp .inn (.var 6) (.var 4)))) (bs [.ret (.bl false)]) (bs []), .app 4 (.var 6)])]), .ite (.or (.cmp .ne (.bi .len (.var 4)) (.bin .sub (.bi .len (.ix (.var 0) (.int 1))) (.int 1))) (.cmp .ne (.var 3) (.bi .sorted (.lc [5] (.nm 5) (.var 3) false (.non) (.bi .sorted (.var 5)))))) (bs [.ret (.bl false)]) (bs []), .asg 7 false (.lc [11, 12, 13] (.tp [11, 12, 13]) (.ix (.var 0) (.int 1)) false (.non) (.call .frz "_law_accesses" (.cons (.var 0) (.cons (.var 13) .nil)))), .asg 8 false (.lc [14] (.nm 14) (.call .frz "_law_pieces" (.cons (.var 0) (.cons (.var 1) (.cons (.var 2) .nil)))) false (.non) (.call .frz "_law_accesses" (.cons (.var 0) (.cons (.var 14) .nil)))), .for_ [.frz, .frz, .frz, .frz, .own, .dead, .dead, .frz, .frz, .dead, .dead, .dead, .dead, .dead, .dead, .dead, .dead] (.nm 9) (.rng1 (.bi .len (.var 3))) (bs [.asg 10 false (.lc [6] (.nm 6) (.var 4) true (.cmp .nin (.var 6) (.ix (.var 3) (.var 9))) (.var 6)), .ite (.cmp .ne (.lc [6] (.nm 6) (.var 10) true (.cmp .ne (.lc [15] (.nm 15) (.ix (.var 3) (.var 9)) true (.call .frz "_law_meet" (.cons (.ix (.var 7) (.var 15)) (.cons (.ix (.var 7) (.var 6)) .nil))) (.var 15)) (.lst .nil)) (.var 6)) (.lst .nil)) (bs [.ret (.bl false)]) (bs []), .ite (.cmp .gt (.bi .len (.lc [16] (.nm 16) (.var 8) true (.cmp .ne (.lc [15] (.nm 15) (.ix (.var 3) (.var 9)) true (.call .frz "_law_meet" (.cons (.ix (.var 7) (.var 15)) (.cons (.var 16) .nil))) (.var 15)) (.lst .nil)) (.var 16))) (.int 1)) (bs [.ret (.bl false)]) (bs [])]), .ret (.bl true)]⟩⟩
def d_law_is_right : Df := ⟨"_law_is_right", ["house", "cuts", "paper", "job"], false, ⟨3, 4, bs [.ite (.or (.not (.isi (.var 2) [.tuple])) (.or (.cmp .ne (.bi .len (.var 2)) (.int 2)) (.or (.not (.call .frz "_law_same" (.cons (.ix (.var 2) (.int 0)) (.cons (.str "right") .nil)))) (.or (.not (.isi (.ix (.var 2) (.int 1)) [.list])) (.cmp .ne (.bi .len (.ix (.var 2) (.int 1))) (.bi .len (.ix (.var 0) (.int 1)))))))) (bs [.ret (.bl false)]) (bs []), .ret (.cmp .eq (.lc [3] (.nm 3) (.rng1 (.bi .len (.ix (.var 0) (.int 1)))) true (.not (.call .frz "_law_is_bunches" (.cons (.var 0) (.cons (.var 1) (.cons (.var 3) (.cons (.ix (.ix (.var 2) (.int 1)) (.var 3)) .nil)))))) (.var 3)) (.lst .nil))]⟩⟩
def d_law_crossed_papers : Df := ⟨"_law_crossed_papers", ["house", "draws", "found", "many", "k", "cell", "i", "row", "word", "job", "j"], true, ⟨2, 11, bs [.par 2 3 true false (.lst .nil) (.bin .add (.bi .len (.ix (.var 0) (.int 1))) (.int 1)), .for_ [.frz, .frz, .own, .frz, .dead, .dead, .dead, .dead, .dead, .dead, .dead] (.nm 4) (.rng1 (.int 12)) (bs [.asg 5 false (.call .frz "_law_mixed" (.cons (.var 1) (.cons (.bin .add (.int 70) (.var 4)) .nil))), .asg 6 false (.bin .mod (.bin .fdiv (.var 5) (.int 8)) (.int 4)), .asg 7 false (.lc [10] (.nm 10) (.rng1 (.bin .add (.int 1) (.bin .mod (.bin .fdiv (.var 5) (.int 32)) (.int 3)))) false (.non) (.bin .mod (.call .frz "_law_mixed" (.cons (.var 1) (.cons (.bin .add (.bin .add (.int 80) (.bin .mul (.int 3) (.var 4))) (.var 10)) .nil))) (.var 3))), .app 2 (.tup (.cons (.str "crossed") (.cons (.bin .mod (.bin .fdiv (.var 5) (.int 128)) (.var 3)) (.cons (.var 6) (.cons (.bin .add (.var 6) (.bin .mod (.bin .fdiv (.var 5) (.int 1024)) (.int 4))) (.cons (.var 7) .nil))))))]), .unp [8, 9, 6, 10, 7] (.ix (.var 2) (.int 0)), .asg 2 true (.bin .add (.var 2) (.lst (.cons (.tup (.cons (.var 8) (.cons (.var 9) (.cons (.var 10) (.cons (.var 6) (.cons (.var 7) .nil)))))) (.cons (.tup (.cons (.var 8) (.cons (.var 9) (.cons (.var 6) (.cons (.var 6) (.cons (.var 7) .nil)))))) (.cons (.tup (.cons (.var 8) (.cons (.var 9) (.cons (.var 6) (.cons (.var 10) (.cons (.lst .nil) .nil)))))) (.cons (.tup (.cons (.var 8) (.cons (.var 9) (.cons (.var 6) (.cons (.var 10) (.cons (.bin .add (.var 7) (.lst (.cons (.var 9) .nil))) .nil)))))) (.cons (.tup (.cons (.var 8) (.cons (.var 9) (.cons (.var 6) (.cons (.var 10) (.cons (.bin .add (.var 7) (.slu (.var 7) (.int 1))) .nil)))))) .nil))))))), .asg 2 true (.bin .add (.var 2) (.lst (.cons (.tup (.cons (.var 8) (.cons (.neg (.int 1)) (.cons (.var 6) (.cons (.var 10) (.cons (.var 7) .nil)))))) (.cons (.tup (.cons (.var 8) (.cons (.var 9) (.cons (.neg (.int 1)) (.cons (.var 10) (.cons (.var 7) .nil)))))) (.cons (.tup (.cons (.var 8) (.cons (.var 9) (.cons (.var 6) (.cons (.bin .add (.var 10) (.int 40)) (.cons (.var 7) .nil)))))) (.cons (.tup (.cons (.var 8) (.cons (.var 9) (.cons (.var 6) (.cons (.var 10) (.cons (.bi .tuple (.var 7)) .nil)))))) (.cons (.lst (.cons (.var 8) (.cons (.var 9) (.cons (.var 6) (.cons (.var 10) (.cons (.var 7) .nil)))))) (.cons (.tup (.cons (.var 8) (.cons (.var 9) (.cons (.var 6) (.cons (.var 10) .nil))))) .nil)))))))), .ret (.bin .add (.var 2) (.lst (.cons (.tup (.cons (.str "Crossed") (.cons (.var 9) (.cons (.var 6) (.cons (.var 10) (.cons (.var 7) .nil)))))) (.cons (.tup (.cons (.var 8) (.cons (.var 9) (.cons (.bl false) (.cons (.bl true) (.cons (.var 7) .nil)))))) (.cons (.tup (.cons (.var 8) (.cons (.var 9) (.cons (.var 6) (.cons (.var 10) (.cons (.lst (.cons (.non) .nil)) .nil)))))) (.cons (.tup (.cons (.var 8) (.cons (.var 9) (.cons (.var 6) (.cons (.var 10) (.cons (.var 7) (.cons (.int 0) .nil))))))) (.cons (.tup (.cons (.var 8) (.cons (.non) (.cons (.var 6) (.cons (.var 10) (.cons (.var 7) .nil)))))) (.cons (.tup (.cons (.var 8) (.cons (.var 9) (.cons (.var 6) (.cons (.var 10) (.cons (.lst (.cons (.var 7) .nil)) .nil)))))) .nil))))))))]⟩⟩
def d_law_right_papers : Df := ⟨"_law_right_papers", ["house", "draws", "parts", "joined", "single", "found", "job", "cell", "row", "wrong", "other", "bunch"], true, ⟨2, 12, bs [.asg 2 false (.lc [6] (.nm 6) (.rng1 (.bi .len (.ix (.var 0) (.int 1)))) false (.non) (.call .frz "_law_bunches" (.cons (.var 0) (.cons (.var 6) .nil)))), .asg 3 false (.lc [6] (.nm 6) (.rng1 (.bi .len (.ix (.var 0) (.int 1)))) false (.non) (.lst (.cons (.lc [10] (.nm 10) (.rng1 (.bi .len (.ix (.var 0) (.int 1)))) true (.cmp .ne (.var 10) (.var 6)) (.var 10)) .nil))), .asg 4 false (.lc [6] (.nm 6) (.rng1 (.bi .len (.ix (.var 0) (.int 1)))) false (.non) (.lc [10] (.nm 10) (.rng1 (.bi .len (.ix (.var 0) (.int 1)))) true (.cmp .ne (.var 10) (.var 6)) (.lst (.cons (.var 10) .nil)))), .asg 5 true (.lst (.cons (.tup (.cons (.str "right") (.cons (.var 2) .nil))) (.cons (.tup (.cons (.str "right") (.cons (.var 3) .nil))) (.cons (.tup (.cons (.str "right") (.cons (.var 4) .nil))) (.cons (.tup (.cons (.str "Right") (.cons (.var 2) .nil))) (.cons (.lst (.cons (.str "right") (.cons (.var 2) .nil))) (.cons (.tup (.cons (.str "right") (.cons (.bi .tuple (.var 2)) .nil))) (.cons (.tup (.cons (.str "right") (.cons (.slu (.var 2) (.neg (.int 1))) .nil))) (.cons (.tup (.cons (.str "right") (.cons (.bin .add (.var 2) (.lst (.cons (.lst .nil) .nil))) .nil))) .nil))))))))), .for_ [.frz, .frz, .frz, .frz, .frz, .own, .dead, .dead, .dead, .dead, .dead, .dead] (.nm 6) (.rng1 (.bi .len (.ix (.var 0) (.int 1)))) (bs [.asg 7 false (.call .frz "_law_mixed" (.cons (.var 1) (.cons (.bin .add (.int 60) (.var 6)) .nil))), .asg 8 false (.ix (.var 2) (.var 6)), .asg 9 false (.lst (.cons (.rev (.var 8)) (.cons (.lc [11] (.nm 11) (.var 8) false (.non) (.rev (.var 11))) (.cons (.bin .add (.var 8) (.lst (.cons (.lst .nil) .nil))) (.cons (.sll (.var 8) (.int 1)) (.cons (.bin .add (.var 8) (.slu (.var 8) (.int 1))) (.cons (.bin .add (.var 8) (.lst (.cons (.lst (.cons (.var 6) .nil)) .nil))) (.cons (.lc [11] (.nm 11) (.var 8) false (.non) (.bi .tuple (.var 11))) (.cons (.bi .tuple (.var 8)) (.cons (.non) (.cons (.ix (.var 3) (.var 6)) (.cons (.ix (.var 4) (.var 6)) .nil)))))))))))), .for_ [.frz, .frz, .frz, .frz, .frz, .own, .frz, .frz, .frz, .frz, .dead, .dead] (.nm 10) (.st2 (.var 9) (.bin .mod (.var 7) (.int 2))) (bs [.app 5 (.tup (.cons (.str "right") (.cons (.bin .add (.bin .add (.slu (.var 2) (.var 6)) (.lst (.cons (.var 10) .nil))) (.sll (.var 2) (.bin .add (.var 6) (.int 1)))) .nil)))])]), .ret (.var 5)]⟩⟩
def d_law : Df := ⟨"law", ["script", "draws", "house", "cuts", "passed", "paper", "one", "kept", "first", "second"], false, ⟨1, 10, bs [.asg 1 false (.call .frz "_law_draws" (.cons (.var 0) (.cons (.int 120) .nil))), .asg 2 false (.call .frz "_law_plain_house" (.cons (.var 1) (.cons (.int 0) .nil))), .asg 3 false (.call .frz "_law_cuts" (.cons (.var 1) (.cons (.int 60) (.cons (.var 2) .nil)))), .asg 4 false (.call .frz "_law_copy" (.cons (.var 3) .nil)), .asg 5 false (.call .frz "cuts_paper" (.cons (.var 2) (.cons (.var 4) .nil))), .ite (.or (.not (.call .frz "_law_same" (.cons (.call .frz "shows_crossed" (.cons (.var 2) (.cons (.var 4) (.cons (.var 5) .nil)))) (.cons (.cmp .eq (.ix (.var 5) (.int 0)) (.str "crossed")) .nil)))) (.not (.call .frz "_law_same" (.cons (.call .frz "shows_right_cuts" (.cons (.var 2) (.cons (.var 4) (.cons (.var 5) .nil)))) (.cons (.cmp .eq (.ix (.var 5) (.int 0)) (.str "right")) .nil))))) (bs [.ret (.bl false)]) (bs []), .for_ [.frz, .frz, .frz, .frz, .frz, .frz, .dead, .dead, .dead, .dead] (.nm 6) (.bin .add (.bin .add (.bin .add (.lst (.cons (.var 5) .nil)) (.call .frz "_law_crossed_papers" (.cons (.var 2) (.cons (.var 1) .nil)))) (.call .frz "_law_right_papers" (.cons (.var 2) (.cons (.var 1) .nil)))) (.call .frz "_law_odd_values" .nil)) (bs [.asg 7 false (.call .frz "_law_copy" (.cons (.var 6) .nil)), .par 8 9 false false (.call .frz "shows_crossed" (.cons (.var 2) (.cons (.var 4) (.cons (.var 6) .nil)))) (.call .frz "shows_right_cuts" (.cons (.var 2) (.cons (.var 4) (.cons (.var 6) .nil)))), .ite (.or (.not (.call .frz "_law_same" (.cons (.var 8) (.cons (.call .frz "_law_is_crossed" (.cons (.var 2) (.cons (.var 3) (.cons (.var 6) .nil)))) .nil)))) (.not (.call .frz "_law_same" (.cons (.var 9) (.cons (.call .frz "_law_is_right" (.cons (.var 2) (.cons (.var 3) (.cons (.var 6) .nil)))) .nil))))) (bs [.ret (.bl false)]) (bs []), .ite (.or (.not (.call .frz "_law_same" (.cons (.var 6) (.cons (.var 7) .nil)))) (.cmp .ne (.var 4) (.var 3))) (bs [.ret (.bl false)]) (bs [])]), .ret (.bl true)]⟩⟩
def tab : List Df := [d_is_number, d_is_index, d_is_tagged, d_is_indexes, d_account_numbers, d_accesses_of, d_accounts_written, d_accounts_read, d_have_common, d_do_meet, d_pieces_of, d_accesses_in, d_body_accesses, d_piece_accesses, d_jobs_meet, d_other_jobs, d_lists_from, d_crossing, d_parts_without, d_cuts_paper, d_is_crossing, d_shows_crossed, d_pieces_met, d_are_apart, d_is_parting, d_are_right_parts, d_shows_right_cuts, d_law_draws, d_law_cell, d_law_simple, d_law_statement, d_law_rule, d_law_house, d_law_straight_body, d_law_straight_house, d_law_same, d_law_account, d_law_ways_in, d_law_meet, d_law_family, d_law_mixed, d_law_copy, d_law_without_needs, d_law_plain_house, d_law_cuts, d_law_pieces, d_law_accesses, d_law_bunches, d_law_is_place, d_law_odd_values, d_law_is_crossed, d_law_is_bunches, d_law_is_right, d_law_crossed_papers, d_law_right_papers, d_law]

abbrev lawF : List D → Option D := runF (fnsOf tab) 60 (60 + 1) ("law" : Str)
end Q
set_option autoImplicit false
set_option linter.all false
set_option maxRecDepth 100000
set_option maxHeartbeats 4000000
namespace Q
open PySem
abbrev Ph (n : Nat) : Fns := runF (fnsOf tab) 60 n
theorem call_eq {g : Str} {f : Fn} (h : fnsOf tab g = some f) {n : Nat} (hn : 1 ≤ n) (ds : List D) : Ph n g ds = runB (Ph (n - 1)) 60 f ds := by
  obtain ⟨m, rfl⟩ : ∃ m, n = m + 1 := ⟨n - 1, by omega⟩
  show ((fnsOf tab g).bind fun f => runB (Ph m) 60 f ds) = _
  rw [h]; rfl
section
variable {β : Type} {p : P} {body : Env → Option R} {K : R → Option β} {Z : Option β → Prop}
def okF (I : Env → Prop) (K : R → Option β) (Z : Option β → Prop) : Option R → Prop
  | some (.nx ρ) => I ρ
  | some (.ct ρ) => I ρ
  | some (.bk ρ) => Z (K (.nx ρ))
  | some (.rt w) => Z (K (.rt w))
  | none => False
@[simp] theorem okF_nx (I : Env → Prop) (ρ : Env) : okF I K Z (some (.nx ρ)) = I ρ := rfl
@[simp] theorem okF_ct (I : Env → Prop) (ρ : Env) : okF I K Z (some (.ct ρ)) = I ρ := rfl
@[simp] theorem okF_bk (I : Env → Prop) (ρ : Env) : okF I K Z (some (.bk ρ)) = Z (K (.nx ρ)) := rfl
@[simp] theorem okF_rt (I : Env → Prop) (w : D) : okF I K Z (some (.rt w)) = Z (K (.rt w)) := rfl
theorem goF_use {ds : List D} {ρ : Env} (I : List D → Env → Prop) (hi : I ds ρ) (h0 : ∀ ρ, I [] ρ → Z (K (.nx ρ))) (h1 : ∀ d ds ρ, I (d :: ds) ρ → okF (I ds) K Z ((bindP p d ρ).bind body)) : Z ((goF p body ds ρ).bind K) := by
  induction ds generalizing ρ with
  | nil => exact h0 ρ hi
  | cons d ds ih =>
    have h := h1 d ds ρ hi
    unfold goF
    cases e1 : bindP p d ρ with
    | none => rw [e1] at h; exact h.elim
    | some ρ1 =>
      rw [e1, Option.bind_some] at h
      rw [Option.bind_some]
      cases e2 : body ρ1 with
      | none => rw [e2] at h; exact h.elim
      | some r =>
        rw [e2] at h
        rw [Option.bind_some]
        cases r with
        | nx ρ2 => exact ih h
        | ct ρ2 => exact ih h
        | bk ρ2 => exact h
        | rt v => exact h
theorem goF_map {α : Type} {e : α → D} {as : List α} {ρ : Env} (I : List α → Env → Prop) (hi : I as ρ) (h0 : ∀ ρ, I [] ρ → Z (K (.nx ρ))) (h1 : ∀ a as ρ, I (a :: as) ρ → okF (I as) K Z ((bindP p (e a) ρ).bind body)) : Z ((goF p body (as.map e) ρ).bind K) := by
  refine goF_use (fun ds ρ => ∃ as, ds = as.map e ∧ I as ρ) ⟨as, rfl, hi⟩ (fun ρ ⟨as, h, hi⟩ => ?_) fun d ds ρ ⟨as, h, hi⟩ => ?_
  · cases as with
    | nil => exact h0 ρ hi
    | cons a as => cases h
  · cases as with
    | nil => cases h
    | cons a as =>
      cases h
      have q := h1 a as ρ hi
      revert q
      cases (bindP p (e a) ρ).bind body with
      | none => exact id
      | some r => cases r with
        | nx ρ2 => exact fun q => ⟨as, rfl, q⟩
        | ct ρ2 => exact fun q => ⟨as, rfl, q⟩
        | bk ρ2 => exact id
        | rt w => exact id
theorem goF_check {α : Type} {e : α → D} {as : List α} (ρ : Option D → Env) (P : α → Bool) (w : D) {y : Option D} (hb : ∀ a ∈ as, ∀ y, (bindP p (e a) (ρ y)).bind body = some (if P a then .nx (ρ (some (e a))) else .rt w))
    (h1 : ∀ y, as.all P = true → Z (K (.nx (ρ y)))) (h2 : as.all P = false → Z (K (.rt w))) : Z ((goF p body (as.map e) (ρ y)).bind K) := by
  induction as generalizing y with
  | nil => exact h1 y rfl
  | cons a as ih =>
    have h := hb a (by simp) y
    rw [List.map_cons]
    unfold goF
    rw [← Option.bind_assoc, h, Option.bind_some]
    cases q : P a with
    | true => exact ih (fun a ha => hb a (by simp [ha])) (fun y hy => h1 y (by simp [q, hy])) fun hy => h2 (by simp [q, hy])
    | false => exact h2 (by simp [q])
theorem goF_fold {α σ : Type} {e : α → D} {as : List α} (ρ : σ → Option D → Env) (f : σ → α → σ) (J : List α → σ → Prop) {s : σ} {y : Option D} (hs : J as s) (hb : ∀ a rest s y, a ∈ as → J (a :: rest) s → (bindP p (e a) (ρ s y)).bind body = some (.nx (ρ (f s a) (some (e a)))) ∧ J rest (f s a))
    (h1 : ∀ y, J [] (as.foldl f s) → Z (K (.nx (ρ (as.foldl f s) y)))) : Z ((goF p body (as.map e) (ρ s y)).bind K) := by
  induction as generalizing s y with
  | nil => exact h1 y hs
  | cons a as ih =>
    obtain ⟨h, hj⟩ := hb a as s y (by simp) hs
    rw [List.map_cons]
    unfold goF
    rw [← Option.bind_assoc, h, Option.bind_some]
    exact ih hj (fun a rest s y ha => hb a rest s y (by simp [ha])) h1
theorem goF_checkE {α τ : Type} {e : α → D} {as : List α} (ρ : τ → Env) (P : α → Bool) (w : D) {t : τ} (hb : ∀ a ∈ as, ∀ t, ∃ t', (bindP p (e a) (ρ t)).bind body = some (if P a then .nx (ρ t') else .rt w))
    (h1 : ∀ t, as.all P = true → Z (K (.nx (ρ t)))) (h2 : as.all P = false → Z (K (.rt w))) : Z ((goF p body (as.map e) (ρ t)).bind K) := by
  induction as generalizing t with
  | nil => exact h1 t rfl
  | cons a as ih =>
    obtain ⟨t', h⟩ := hb a (by simp) t
    rw [List.map_cons]
    unfold goF
    rw [← Option.bind_assoc, h, Option.bind_some]
    cases q : P a with
    | true => exact ih (fun a ha => hb a (by simp [ha])) (fun y hy => h1 y (by simp [q, hy])) fun hy => h2 (by simp [q, hy])
    | false => exact h2 (by simp [q])
theorem goF_foldE {α σ τ : Type} {e : α → D} {as : List α} (ρ : σ → τ → Env) (f : σ → α → σ) (J : List α → σ → Prop) {s : σ} {t : τ} (hs : J as s) (hb : ∀ a rest s t, a ∈ as → J (a :: rest) s → (∃ t', (bindP p (e a) (ρ s t)).bind body = some (.nx (ρ (f s a) t'))) ∧ J rest (f s a))
    (h1 : ∀ t, J [] (as.foldl f s) → Z (K (.nx (ρ (as.foldl f s) t)))) : Z ((goF p body (as.map e) (ρ s t)).bind K) := by
  induction as generalizing s t with
  | nil => exact h1 t hs
  | cons a as ih =>
    obtain ⟨⟨t', h⟩, hj⟩ := hb a as s t (by simp) hs
    rw [List.map_cons]
    unfold goF
    rw [← Option.bind_assoc, h, Option.bind_some]
    exact ih hj (fun a rest s t ha => hb a rest s t (by simp [ha])) h1
def okW (I : Nat → Env → Prop) (k : Nat) (ρ : Env) (body : Option R) (K : R → Option β) (Z : Option β → Prop) : Option Bool → Prop
  | some false => Z (K (.nx ρ))
  | some true => okF (fun ρ2 => ∃ j, k = j + 1 ∧ I j ρ2) K Z body
  | none => False
@[simp] theorem okW_f (I : Nat → Env → Prop) (k : Nat) (ρ : Env) (o : Option R) : okW I k ρ o K Z (some false) = Z (K (.nx ρ)) := rfl
@[simp] theorem okW_t (I : Nat → Env → Prop) (k : Nat) (ρ : Env) (o : Option R) : okW I k ρ o K Z (some true) = okF (fun ρ2 => ∃ j, k = j + 1 ∧ I j ρ2) K Z o := rfl
theorem goW_use {c : Env → Option Bool} {m k : Nat} {ρ : Env} (I : Nat → Env → Prop) (hi : I k ρ) (hm : k < m) (h1 : ∀ k ρ, I k ρ → okW I k ρ (body ρ) K Z (c ρ)) : Z ((goW c body m ρ).bind K) := by
  induction m generalizing k ρ with
  | zero => omega
  | succ m ih =>
    have h := h1 k ρ hi
    unfold goW
    cases e1 : c ρ with
    | none => rw [e1] at h; exact h.elim
    | some b =>
      rw [e1] at h
      rw [Option.bind_some]
      cases b with
      | false => exact h
      | true =>
        show Z (((body ρ).bind _).bind K)
        cases e2 : body ρ with
        | none => rw [e2] at h; exact h.elim
        | some r =>
          rw [e2] at h
          rw [Option.bind_some]
          cases r with
          | nx ρ2 => obtain ⟨j, rfl, e5⟩ := h; exact ih e5 (by omega)
          | ct ρ2 => obtain ⟨j, rfl, e5⟩ := h; exact ih e5 (by omega)
          | bk ρ2 => exact h
          | rt v => exact h
end
@[simp] theorem bind_nm (i : Nat) (d : D) (ρ : Env) : bindP (.nm i) d ρ = if i < ρ.length then some (ρ.set i (some d)) else none := rfl
@[simp] theorem bind_tp (is : List Nat) (ds : List D) (ρ : Env) : bindP (.tp is) (.tuple ds) ρ = setAll is ds ρ := rfl
@[simp] theorem setAll_nil (ρ : Env) : setAll [] [] ρ = some ρ := rfl
@[simp] theorem setAll_cons (i : Nat) (is : List Nat) (d : D) (ds : List D) (ρ : Env) : setAll (i :: is) (d :: ds) ρ = if i < ρ.length then setAll is ds (ρ.set i (some d)) else none := rfl
@[simp] theorem wipe_nil (ρ : Env) : Q.wipe ρ [] = ρ := rfl
@[simp] theorem wipe_cons (ρ : Env) (i : Nat) (is : List Nat) : Q.wipe ρ (i :: is) = (Q.wipe ρ is).set i none := rfl
@[simp] theorem stO_eq (i : Nat) (d : D) (ρ : Env) : stO i d ρ = if i < ρ.length then some (.nx (ρ.set i (some d))) else none := rfl
theorem fmM_map {α : Type} {f : D → Option (Option D)} {e : α → D} (g : α → Option D) {as : List α} (h : ∀ a ∈ as, f (e a) = some (g a)) : fmM f (as.map e) = some (as.filterMap g) := by
  induction as with
  | nil => rfl
  | cons a as ih =>
    rw [List.map_cons]
    unfold fmM
    rw [h a (by simp), Option.bind_some]
    have ih := ih fun x hx => h x (by simp [hx])
    cases q : g a with
    | none => rw [List.filterMap_cons_none q]; exact ih
    | some y => rw [List.filterMap_cons_some q]; show (fmM f _).map _ = _; rw [ih]; rfl
theorem fmM_all {α : Type} {f : D → Option (Option D)} {e : α → D} (g : α → D) {as : List α} (h : ∀ a ∈ as, f (e a) = some (some (g a))) : fmM f (as.map e) = some (as.map g) := by
  rw [fmM_map (fun a => some (g a)) h]
  simp
section
variable (Φ : Fns) (W : Nat) (ρ : Env)
@[simp] theorem ev_var (i : Nat) : ev Φ (.var i) ρ = (ρ[i]?).join := by simp only [ev]
@[simp] theorem ev_non : ev Φ .non ρ = some .none := by simp only [ev]
@[simp] theorem ev_bl (b : Bool) : ev Φ (.bl b) ρ = some (.bool b) := by simp only [ev]
@[simp] theorem ev_int (i : Int) : ev Φ (.int i) ρ = some (.int i) := by simp only [ev]
@[simp] theorem ev_str (x : Str) : ev Φ (.str x) ρ = some (.str x) := by simp only [ev]
def negD : D → Option D
  | .int i => some (.int (-i))
  | _ => none
@[simp] theorem negD_int (i : Int) : negD (.int i) = some (.int (-i)) := rfl
@[simp] theorem ev_neg (a : E) : ev Φ (.neg a) ρ = (ev Φ a ρ).bind negD := by simp only [ev] <;> rfl
@[simp] theorem ev_bin (o : Bop) (a b : E) : ev Φ (.bin o a b) ρ = (ev Φ a ρ).bind fun x => (ev Φ b ρ).bind fun y => binD o x y := by simp only [ev]
@[simp] theorem ev_cmp (o : Cop) (a b : E) : ev Φ (.cmp o a b) ρ = (ev Φ a ρ).bind fun x => (ev Φ b ρ).bind fun y => (cmpD o x y).map .bool := by simp only [ev]
def chD (o1 : Option Bool) (o2 : Option Bool) : Option D := o1.bind fun b => if b then o2.map .bool else some (.bool false)
@[simp] theorem chD_some (b c : Bool) : chD (some b) (some c) = some (.bool (b && c)) := by cases b <;> rfl
@[simp] theorem chD_f (o : Option Bool) : chD (some false) o = some (.bool false) := rfl
@[simp] theorem ev_chn (o1 o2 : Cop) (a b c : E) : ev Φ (.chn o1 o2 a b c) ρ = (ev Φ a ρ).bind fun x => (ev Φ b ρ).bind fun y => chD (cmpD o1 x y) ((ev Φ c ρ).bind fun z => cmpD o2 y z) := by
  simp only [ev]
  congr 1; funext x; congr 1; funext y
  unfold chD
  cases cmpD o1 x y with
  | none => rfl
  | some b =>
    cases b with
    | false => rfl
    | true =>
      show (ev Φ c ρ).bind _ = (((ev Φ c ρ).bind fun z => cmpD o2 y z)).map _
      cases ev Φ c ρ <;> rfl
def isNoD : D → Bool
  | .none => true
  | _ => false
@[simp] theorem ev_isN (a : E) (ng : Bool) : ev Φ (.isN a ng) ρ = (ev Φ a ρ).map fun d => .bool (isNoD d != ng) := by
  simp only [ev]
  congr 1; funext d; cases d <;> cases ng <;> rfl
def isBD (t ng : Bool) : D → Option D
  | .bool b => some (.bool ((b == t) != ng))
  | _ => none
@[simp] theorem isBD_bool (t ng b : Bool) : isBD t ng (.bool b) = some (.bool ((b == t) != ng)) := rfl
@[simp] theorem ev_isB (a : E) (t ng : Bool) : ev Φ (.isB a t ng) ρ = (ev Φ a ρ).bind (isBD t ng) := by simp only [ev] <;> rfl
def andD (x : D) (b : Option Bool) (y : Option D) : Option D := b.bind fun b => if b then y else some x
def orD (x : D) (b : Option Bool) (y : Option D) : Option D := b.bind fun b => if b then some x else y
@[simp] theorem andD_t (x : D) (y : Option D) : andD x (some true) y = y := rfl
@[simp] theorem andD_f (x : D) (y : Option D) : andD x (some false) y = some x := rfl
@[simp] theorem orD_t (x : D) (y : Option D) : orD x (some true) y = some x := rfl
@[simp] theorem orD_f (x : D) (y : Option D) : orD x (some false) y = y := rfl
@[simp] theorem andD_b (b c : Bool) : andD (.bool b) (some b) (some (.bool c)) = some (.bool (b && c)) := by cases b <;> rfl
@[simp] theorem orD_b (b c : Bool) : orD (.bool b) (some b) (some (.bool c)) = some (.bool (b || c)) := by cases b <;> rfl
@[simp] theorem ev_and (a b : E) : ev Φ (.and a b) ρ = (ev Φ a ρ).bind fun x => andD x (tru x) (ev Φ b ρ) := by
  simp only [ev]
  congr 1; funext x; unfold andD; congr 1; funext b; cases b <;> rfl
@[simp] theorem ev_or (a b : E) : ev Φ (.or a b) ρ = (ev Φ a ρ).bind fun x => orD x (tru x) (ev Φ b ρ) := by
  simp only [ev]
  congr 1; funext x; unfold orD; congr 1; funext b; cases b <;> rfl
@[simp] theorem ev_not (a : E) : ev Φ (.not a) ρ = (ev Φ a ρ).bind fun x => (tru x).map fun c => .bool (!c) := by simp only [ev]
@[simp] theorem ev_ix (a b : E) : ev Φ (.ix a b) ρ = (ev Φ a ρ).bind fun x => (ev Φ b ρ).bind fun y => ixD x y := by simp only [ev]
def sluD (x : D) : D → Option D
  | .int i => slD none (some i) x
  | _ => none
@[simp] theorem sluD_int (x : D) (i : Int) : sluD x (.int i) = slD none (some i) x := rfl
@[simp] theorem ev_slu (a u : E) : ev Φ (.slu a u) ρ = (ev Φ a ρ).bind fun x => (ev Φ u ρ).bind (sluD x) := by simp only [ev] <;> rfl
def sllD (x : D) : D → Option D
  | .int i => slD (some i) none x
  | _ => none
@[simp] theorem sllD_int (x : D) (i : Int) : sllD x (.int i) = slD (some i) none x := rfl
@[simp] theorem ev_sll (a u : E) : ev Φ (.sll a u) ρ = (ev Φ a ρ).bind fun x => (ev Φ u ρ).bind (sllD x) := by simp only [ev] <;> rfl
def slbD (x : D) : D → Option D → Option D
  | .int i, y => y.bind fun
    | .int j => slD (some i) (some j) x
    | _ => none
  | _, _ => none
@[simp] theorem slbD_int (x : D) (i j : Int) : slbD x (.int i) (some (.int j)) = slD (some i) (some j) x := rfl
@[simp] theorem ev_slb (a l u : E) : ev Φ (.slb a l u) ρ = (ev Φ a ρ).bind fun x => (ev Φ l ρ).bind fun y => slbD x y (ev Φ u ρ) := by
  simp only [ev]
  congr 1; funext x; congr 1; funext y; cases y <;> rfl
@[simp] theorem ev_rev (a : E) : ev Φ (.rev a) ρ = (ev Φ a ρ).bind revD := by simp only [ev]
def st2E (x : D) : D → Option D
  | .int i => st2D i x
  | _ => none
@[simp] theorem st2E_int (x : D) (i : Int) : st2E x (.int i) = st2D i x := rfl
@[simp] theorem ev_st2 (a l : E) : ev Φ (.st2 a l) ρ = (ev Φ a ρ).bind fun x => (ev Φ l ρ).bind (st2E x) := by simp only [ev] <;> rfl
def tupD (ds : List D) : Option D := gate (decide (ds.length ≤ SL)) (.tuple ds)
def lstD (ds : List D) : Option D := gate (decide (ds.length ≤ SL)) (.list ds)
@[simp] theorem ev_tup (es : L) : ev Φ (.tup es) ρ = (evL Φ es ρ).bind tupD := by simp only [ev] <;> rfl
@[simp] theorem ev_lst (es : L) : ev Φ (.lst es) ρ = (evL Φ es ρ).bind lstD := by simp only [ev] <;> rfl
@[simp] theorem ev_dc0 : ev Φ .dc0 ρ = some (.dict []) := by simp only [ev]
def cmD : Cm → D → Option D
  | .scal, d => gate (scalar d) d
  | _, d => some d
@[simp] theorem cmD_frz (d : D) : cmD .frz d = some d := rfl
@[simp] theorem cmD_bool (b : Bool) : cmD .scal (.bool b) = some (.bool b) := rfl
@[simp] theorem ev_call (m : Cm) (g : Str) (es : L) : ev Φ (.call m g es) ρ = (evL Φ es ρ).bind fun ds => (Φ g ds).bind (cmD m) := by
  simp only [ev]
  congr 1; funext ds; congr 1; funext d; cases m <;> rfl
@[simp] theorem ev_bi (f : Bf) (a : E) : ev Φ (.bi f a) ρ = (ev Φ a ρ).bind (biD f) := by simp only [ev]
def isiD (ts : List Ty) : D → Option D
  | .dict _ => none
  | d => some (.bool (ts.any (isTy d)))
@[simp] theorem ev_isi (a : E) (ts : List Ty) : ev Φ (.isi a ts) ρ = (ev Φ a ρ).bind (isiD ts) := by
  simp only [ev]
  rfl
def mthD (x y : D) : Option D := match x with
  | .list xs => indexD xs y
  | _ => none
@[simp] theorem mthD_list (xs : List D) (y : D) : mthD (.list xs) y = indexD xs y := rfl
@[simp] theorem ev_mth (a b : E) : ev Φ (.mth .index a b) ρ = (ev Φ a ρ).bind fun x => (ev Φ b ρ).bind fun y => mthD x y := by simp only [ev] <;> rfl
def turnE (own : List Nat) (p : P) (hc : Bool) (c e : E) (ρ : Env) (d : D) : Option (Option D) := (bindP p d (Q.wipe ρ own)).bind fun ρ1 => (if hc then (ev Φ c ρ1).bind tru else some true).bind fun b => if b then (ev Φ e ρ1).map some else some none
@[simp] theorem ev_lc (own : List Nat) (p : P) (it : E) (hc : Bool) (c e : E) : ev Φ (.lc own p it hc c e) ρ = ((ev Φ it ρ).bind itemsD).bind fun ds => (fmM (turnE Φ own p hc c e ρ) ds).map .list := by
  simp only [ev]
  congr 1; funext ds; congr 1
  refine congrArg (fun f => fmM f ds) (funext fun d => ?_)
  unfold turnE
  congr 1; funext ρ1
  cases hc with
  | true => simp only [if_true]; congr 1; funext b; cases b <;> rfl
  | false => rfl
def turnKV (own : List Nat) (p : P) (k v : E) (ρ : Env) (acc : List (D × D)) (d : D) : Option (List (D × D)) := (bindP p d (Q.wipe ρ own)).bind fun ρ1 => (ev Φ k ρ1).bind fun x => (keyOf x).bind fun q => (ev Φ v ρ1).map fun y => dput q y acc
@[simp] theorem ev_dc (own : List Nat) (p : P) (it k v : E) : ev Φ (.dc own p it k v) ρ = ((ev Φ it ρ).bind itemsD).bind fun ds => (ds.foldlM (turnKV Φ own p k v ρ) []).map .dict := by simp only [ev] <;> rfl
def rgD (i : Int) : D → Option D
  | .int j => (rngD i j).map .list
  | _ => none
@[simp] theorem rgD_int (i j : Int) : rgD i (.int j) = (rngD i j).map .list := rfl
@[simp] theorem ev_rng1 (a : E) : ev Φ (.rng1 a) ρ = (ev Φ a ρ).bind (rgD 0) := by simp only [ev] <;> rfl
def rg2D : D → Option D → Option D
  | .int i, y => y.bind (rgD i)
  | _, _ => none
@[simp] theorem rg2D_int (i : Int) (y : Option D) : rg2D (.int i) y = y.bind (rgD i) := rfl
@[simp] theorem ev_rng2 (a b : E) : ev Φ (.rng2 a b) ρ = (ev Φ a ρ).bind fun x => rg2D x (ev Φ b ρ) := by
  simp only [ev]
  congr 1; funext x; cases x <;> rfl
@[simp] theorem evL_nil : evL Φ .nil ρ = some [] := by simp only [evL]
@[simp] theorem evL_cons (e : E) (r : L) : evL Φ (.cons e r) ρ = (ev Φ e ρ).bind fun d => (evL Φ r ρ).map (d :: ·) := by simp only [evL]
@[simp] theorem ex_asg (i : Nat) (o : Bool) (e : E) : ex Φ W (.asg i o e) ρ = (ev Φ e ρ).bind fun d => stO i d ρ := by simp only [ex]
@[simp] theorem ex_unp (is : List Nat) (e : E) : ex Φ W (.unp is e) ρ = (ev Φ e ρ).bind fun d => (itemsD d).bind fun ds => (setAll is ds ρ).map .nx := by simp only [ex]
@[simp] theorem ex_par (i j : Nat) (oi oj : Bool) (a b : E) : ex Φ W (.par i j oi oj a b) ρ = (ev Φ a ρ).bind fun x => (ev Φ b ρ).bind fun y => if i < ρ.length ∧ j < ρ.length then some (.nx ((ρ.set i (some x)).set j (some y))) else none := by simp only [ex]
def appD (i : Nat) (ρ : Env) (d : D) : Option D → Option R
  | some (.list xs) => if xs.length < SL then stO i (.list (xs ++ [d])) ρ else none
  | _ => none
@[simp] theorem appD_list (i : Nat) (d : D) (xs : List D) : appD i ρ d (some (.list xs)) = if xs.length < SL then stO i (.list (xs ++ [d])) ρ else none := rfl
@[simp] theorem ex_app (i : Nat) (e : E) : ex Φ W (.app i e) ρ = (ev Φ e ρ).bind fun d => appD i ρ d (ρ[i]?).join := by simp only [ex] <;> rfl
def extD (i : Nat) (ρ : Env) : D → Option D → Option R
  | .list ys, some (.list xs) => if xs.length + ys.length ≤ SL then stO i (.list (xs ++ ys)) ρ else none
  | _, _ => none
@[simp] theorem extD_list (i : Nat) (xs ys : List D) : extD i ρ (.list ys) (some (.list xs)) = if xs.length + ys.length ≤ SL then stO i (.list (xs ++ ys)) ρ else none := rfl
@[simp] theorem ex_ext (i : Nat) (e : E) : ex Φ W (.ext i e) ρ = (ev Φ e ρ).bind fun d => extD i ρ d (ρ[i]?).join := by
  simp only [ex]
  congr 1; funext d
  unfold extD
  cases (ρ[i]?).join with
  | none => cases d <;> rfl
  | some x => cases x <;> cases d <;> rfl
def putD (i : Nat) (ρ : Env) (x y : D) : Option D → Option R
  | some (.dict kvs) => (keyOf x).bind fun q => if kvs.length < SL then stO i (.dict (dput q y kvs)) ρ else none
  | _ => none
@[simp] theorem putD_dict (i : Nat) (x y : D) (kvs : List (D × D)) : putD i ρ x y (some (.dict kvs)) = (keyOf x).bind fun q => if kvs.length < SL then stO i (.dict (dput q y kvs)) ρ else none := rfl
@[simp] theorem ex_put (i : Nat) (k v : E) : ex Φ W (.put i k v) ρ = (ev Φ v ρ).bind fun y => (ev Φ k ρ).bind fun x => putD i ρ x y (ρ[i]?).join := by simp only [ex] <;> rfl
@[simp] theorem ex_ite (c : E) (a b : B) : ex Φ W (.ite c a b) ρ = ((ev Φ c ρ).bind tru).bind fun t => if t then exB Φ W a ρ else exB Φ W b ρ := by
  simp only [ex]
  congr 1; funext t; cases t <;> rfl
@[simp] theorem ex_whl (inv : List O) (c : E) (b : B) : ex Φ W (.whl inv c b) ρ = goW (fun ρ => (ev Φ c ρ).bind tru) (exB Φ W b) W ρ := by simp only [ex]
@[simp] theorem ex_for (inv : List O) (p : P) (it : E) (b : B) : ex Φ W (.for_ inv p it b) ρ = ((ev Φ it ρ).bind itemsD).bind fun ds => goF p (exB Φ W b) ds ρ := by simp only [ex]
@[simp] theorem ex_ret (e : E) : ex Φ W (.ret e) ρ = (ev Φ e ρ).map .rt := by simp only [ex]
@[simp] theorem ex_pass : ex Φ W .pass ρ = some (.nx ρ) := by simp only [ex]
@[simp] theorem ex_brk : ex Φ W .brk ρ = some (.bk ρ) := by simp only [ex]
@[simp] theorem ex_cnt : ex Φ W .cnt ρ = some (.ct ρ) := by simp only [ex]
@[simp] theorem ex_frz (i : Nat) : ex Φ W (.frz i) ρ = some (.nx ρ) := by simp only [ex]
def thenR (f : Env → Option R) : R → Option R
  | .nx ρ => f ρ
  | o => some o
@[simp] theorem thenR_nx (f : Env → Option R) : thenR f (.nx ρ) = f ρ := rfl
@[simp] theorem thenR_rt (f : Env → Option R) (d : D) : thenR f (.rt d) = some (.rt d) := rfl
@[simp] theorem thenR_bk (f : Env → Option R) : thenR f (.bk ρ) = some (.bk ρ) := rfl
@[simp] theorem thenR_ct (f : Env → Option R) : thenR f (.ct ρ) = some (.ct ρ) := rfl
@[simp] theorem exB_nil : exB Φ W .nil ρ = some (.nx ρ) := by simp only [exB]
@[simp] theorem exB_cons (s : S) (r : B) : exB Φ W (.cons s r) ρ = (ex Φ W s ρ).bind (thenR (exB Φ W r)) := by
  simp only [exB]
  rfl
@[simp] theorem bs_nil : bs [] = .nil := rfl
@[simp] theorem bs_cons (s : S) (r : List S) : bs (s :: r) = .cons s (bs r) := rfl
def endR : R → Option D
  | .rt d => some d
  | .nx _ => some .none
  | _ => none
@[simp] theorem endR_rt (d : D) : endR (.rt d) = some d := rfl
@[simp] theorem endR_nx : endR (.nx ρ) = some .none := rfl
theorem runB_eq (f : Fn) (ds : List D) (h : ds.length = f.np) : runB Φ W f ds = (exB Φ W f.body (ds.map some ++ List.replicate (f.nl - f.np) none)).bind endR := by
  unfold runB
  rw [if_pos h]
  rfl
end
theorem run_eq {g : Str} {d : Df} (h : fnsOf tab g = some d.fn) {n : Nat} (hn : 1 ≤ n) (ds : List D) (hl : ds.length = d.fn.np) : Ph n g ds = (exB (Ph (n - 1)) 60 d.fn.body (ds.map some ++ List.replicate (d.fn.nl - d.fn.np) none)).bind endR := by
  rw [call_eq h hn, runB_eq _ _ _ _ hl]
@[simp] theorem tru_bool (b : Bool) : tru (.bool b) = some b := rfl
@[simp] theorem tru_none : tru .none = some false := rfl
@[simp] theorem tru_int (i : Int) : tru (.int i) = some (i != 0) := rfl
@[simp] theorem tru_list (xs : List D) : tru (.list xs) = some (!xs.isEmpty) := rfl
@[simp] theorem tru_tuple (xs : List D) : tru (.tuple xs) = some (!xs.isEmpty) := rfl
@[simp] theorem items_list (xs : List D) : itemsD (.list xs) = some xs := rfl
@[simp] theorem items_tuple (xs : List D) : itemsD (.tuple xs) = some xs := rfl
@[simp] theorem add_int (i j : Int) : binD .add (.int i) (.int j) = some (.int (i + j)) := rfl
@[simp] theorem sub_int (i j : Int) : binD .sub (.int i) (.int j) = some (.int (i - j)) := rfl
theorem add_list (xs ys : List D) (h : xs.length + ys.length ≤ SL) : binD .add (.list xs) (.list ys) = some (.list (xs ++ ys)) := by
  show gate _ _ = _; unfold gate; rw [if_pos (by simpa using h)]
theorem add_tup (xs ys : List D) (h : xs.length + ys.length ≤ SL) : binD .add (.tuple xs) (.tuple ys) = some (.tuple (xs ++ ys)) := by
  show gate _ _ = _; unfold gate; rw [if_pos (by simpa using h)]
theorem mod_int (i j : Int) (h : 0 < j) : binD .mod (.int i) (.int j) = some (.int (i % j)) := by
  show gate _ _ = _; unfold gate; rw [if_pos (by simpa using h)]
theorem fdiv_int (i j : Int) (h : 0 < j) (h2 : j < 1073741824) : binD .fdiv (.int i) (.int j) = some (.int (i / j)) := by
  show gate _ _ = _; unfold gate; rw [if_pos (by simp [h, h2])]
theorem mul_int (i j : Int) (h : (-(2 ^ 64) < i ∧ i < 2 ^ 64) ∨ (-(2 ^ 64) < j ∧ j < 2 ^ 64)) : binD .mul (.int i) (.int j) = some (.int (i * j)) := by
  show gate _ _ = _; unfold gate; rw [if_pos (by simpa using h)]
@[simp] theorem lt_int (i j : Int) : cmpD .lt (.int i) (.int j) = some (decide (i < j)) := rfl
@[simp] theorem le_int (i j : Int) : cmpD .le (.int i) (.int j) = some (decide (i ≤ j)) := rfl
@[simp] theorem gt_int (i j : Int) : cmpD .gt (.int i) (.int j) = some (decide (j < i)) := rfl
@[simp] theorem ge_int (i j : Int) : cmpD .ge (.int i) (.int j) = some (decide (j ≤ i)) := rfl
@[simp] theorem cmp_eq (x y : D) : cmpD .eq x y = eqD x y := rfl
@[simp] theorem cmp_ne (x y : D) : cmpD .ne x y = (eqD x y).map not := rfl
@[simp] theorem cmp_in (x y : D) : cmpD .inn x y = inD x y := rfl
@[simp] theorem cmp_nin (x y : D) : cmpD .nin x y = (inD x y).map not := rfl
@[simp] theorem len_list (xs : List D) : biD .len (.list xs) = some (.int xs.length) := rfl
@[simp] theorem len_tup (xs : List D) : biD .len (.tuple xs) = some (.int xs.length) := rfl
@[simp] theorem list_list (xs : List D) : biD .list (.list xs) = some (.list xs) := rfl
@[simp] theorem list_tup (xs : List D) : biD .list (.tuple xs) = some (.list xs) := rfl
@[simp] theorem tuple_list (xs : List D) : biD .tuple (.list xs) = some (.tuple xs) := rfl
@[simp] theorem tuple_tup (xs : List D) : biD .tuple (.tuple xs) = some (.tuple xs) := rfl
@[simp] theorem ix_list (xs : List D) (i : Int) : ixD (.list xs) (.int i) = atD xs i := rfl
@[simp] theorem ix_tup (xs : List D) (i : Int) : ixD (.tuple xs) (.int i) = atD xs i := rfl
theorem atD_nat (xs : List D) (i : Nat) : atD xs (i : Int) = xs[i]? := by
  unfold atD ixN
  rw [if_pos (by omega)]
  by_cases h : i < xs.length
  · rw [if_pos (by omega)]; simp
  · rw [if_neg (by omega), List.getElem?_eq_none (by omega)]; rfl
@[simp] theorem atD_0 (x : D) (xs : List D) : atD (x :: xs) 0 = some x := by
  have := atD_nat (x :: xs) 0
  simpa using this
@[simp] theorem atD_1 (x y : D) (xs : List D) : atD (x :: y :: xs) 1 = some y := by
  have := atD_nat (x :: y :: xs) 1
  simpa using this
@[simp] theorem atD_2 (x y z : D) (xs : List D) : atD (x :: y :: z :: xs) 2 = some z := by
  have := atD_nat (x :: y :: z :: xs) 2
  simpa using this
theorem rng_nat (n : Nat) (h : n ≤ 1000000) : rngD 0 (n : Int) = some ((List.range n).map fun k => .int (k : Nat)) := by
  unfold rngD gate
  rw [if_pos (by simp; omega)]
  simp
theorem rng_nat2 (m n : Nat) (h : n ≤ 1000000) (hm : m ≤ 1000000) : rngD (m : Int) (n : Int) = some ((List.range (n - m)).map fun k => .int ((m + k : Nat) : Int)) := by
  unfold rngD gate
  rw [if_pos (by simp; omega)]
  congr 1
  have : ((n : Int) - m).toNat = n - m := by omega
  rw [this]
  refine List.map_congr_left fun k _ => ?_
  simp
theorem eqD_ok {x y : D} (h1 : okD 60 x = true) (h2 : okD 60 y = true) : eqD x y = some (PyData.eqv x y) := by
  unfold eqD; rw [h1, h2]; rfl
@[simp] theorem eqD_int (i j : Int) : eqD (.int i) (.int j) = some (decide (i = j)) := by
  rw [eqD_ok rfl rfl]
  congr 1


@[simp] theorem eqD_str (x y : Str) : eqD (.str x) (.str y) = some (decide (x = y)) := by
  rw [eqD_ok rfl rfl]
  congr 1


@[simp] theorem SL_eq : SL = 16777216 := rfl
theorem tupD_ok {ds : List D} (h : ds.length ≤ 16777216) : tupD ds = some (.tuple ds) := by
  unfold tupD gate; rw [if_pos (by simpa using h)]
theorem lstD_ok {ds : List D} (h : ds.length ≤ 16777216) : lstD ds = some (.list ds) := by
  unfold lstD gate; rw [if_pos (by simpa using h)]
@[simp] theorem tupD_0 : tupD [] = some (.tuple []) := tupD_ok (by simp)
@[simp] theorem tupD_1 (a : D) : tupD [a] = some (.tuple [a]) := tupD_ok (by simp)
@[simp] theorem tupD_2 (a b : D) : tupD [a, b] = some (.tuple [a, b]) := tupD_ok (by simp)
@[simp] theorem tupD_3 (a b c : D) : tupD [a, b, c] = some (.tuple [a, b, c]) := tupD_ok (by simp)
@[simp] theorem tupD_4 (a b c d : D) : tupD [a, b, c, d] = some (.tuple [a, b, c, d]) := tupD_ok (by simp)
@[simp] theorem tupD_5 (a b c d e : D) : tupD [a, b, c, d, e] = some (.tuple [a, b, c, d, e]) := tupD_ok (by simp)
@[simp] theorem lstD_0 : lstD [] = some (.list []) := lstD_ok (by simp)
@[simp] theorem lstD_1 (a : D) : lstD [a] = some (.list [a]) := lstD_ok (by simp)
@[simp] theorem lstD_2 (a b : D) : lstD [a, b] = some (.list [a, b]) := lstD_ok (by simp)
@[simp] theorem lstD_3 (a b c : D) : lstD [a, b, c] = some (.list [a, b, c]) := lstD_ok (by simp)
@[simp] theorem lstD_4 (a b c d : D) : lstD [a, b, c, d] = some (.list [a, b, c, d]) := lstD_ok (by simp)
@[simp] theorem lstD_5 (a b c d e : D) : lstD [a, b, c, d, e] = some (.list [a, b, c, d, e]) := lstD_ok (by simp)
end Q
set_option autoImplicit false
set_option linter.all false
set_option maxRecDepth 100000
set_option maxHeartbeats 4000000
namespace Q
open PySem
def noD : D → Bool
  | .dict _ => false
  | _ => true
theorem isiD_ok {d : D} (h : noD d = true) (ts : List Ty) : isiD ts d = some (.bool (ts.any (isTy d))) := by cases d <;> first | rfl | cases h
def isNum : D → Bool
  | .int _ => true
  | _ => false
theorem c_is_number {n : Nat} (hn : 1 ≤ n) (d : D) (hd : noD d = true) : Ph n ("is_number" : Str) [d] = some (.bool (isNum d)) := by
  rw [run_eq (d := d_is_number) (by kernel_rfl) hn _ rfl]
  cases d <;> first | (cases hd; done) | simp [d_is_number, isiD, isTy, isNum]
theorem map_id' {xs : List D} : xs = xs.map id := by simp
def numsB : D → Bool
  | .list xs => xs.all isNum
  | _ => false
def noD2 : D → Bool
  | .list xs => xs.all noD
  | .dict _ => false
  | _ => true
theorem noD_of {d : D} (h : noD2 d = true) : noD d = true := by cases d <;> first | rfl | cases h
def intsD : D → Option (List Int)
  | .list xs => intsOf xs
  | _ => none
def ascB (ns : List Int) : Bool := (List.range (ns.length - 1)).all fun k => decide (ns.getD k 0 < ns.getD (k + 1) 0)
theorem intsOf_all : ∀ {xs : List D}, xs.all isNum = (intsOf xs).isSome
  | [] => rfl
  | x :: xs => by
    cases x with
    | int i => simp [isNum, intsOf, intsOf_all (xs := xs)]
    | _ => simp [isNum, intsOf]
theorem nums_ints (d : D) : numsB d = (intsD d).isSome := by
  cases d <;> first | rfl | exact intsOf_all
theorem intsOf_map : ∀ {xs : List D} {ns : List Int}, intsOf xs = some ns → xs = ns.map .int
  | [], ns, h => by cases h; rfl
  | x :: xs, ns, h => by
    cases x with
    | int i =>
      simp only [intsOf, Option.map_eq_some_iff] at h
      obtain ⟨ms, h1, rfl⟩ := h
      rw [intsOf_map h1]; rfl
    | _ => simp [intsOf] at h
theorem ints_D {d : D} {ns : List Int} (h : intsD d = some ns) : d = .list (ns.map .int) := by
  cases d with
  | list xs => rw [intsOf_map h]
  | _ => cases h
theorem at_ints (ns : List Int) (k : Nat) (hk : k < ns.length) : atD (ns.map PyData.int) (k : Int) = some (.int (ns.getD k 0)) := by
  rw [atD_nat, List.getElem?_map, List.getElem?_eq_getElem hk, List.getD_eq_getElem?_getD, List.getElem?_eq_getElem hk]; rfl
theorem rng_one (n : Nat) (h : n ≤ 1000000) : rngD 1 (n : Int) = some ((List.range (n - 1)).map fun k => .int ((k : Int) + 1)) := by
  have := rng_nat2 1 n h (by omega)
  rw [show ((1 : Nat) : Int) = 1 from rfl] at this
  rw [this]
  congr 2
  funext k
  congr 1
  omega
def lenD : D → Nat
  | .list xs => xs.length
  | .tuple xs => xs.length
  | _ => 0
end Q
set_option autoImplicit false
set_option linter.all false
set_option maxRecDepth 100000
set_option maxHeartbeats 4000000
namespace Q
open PySem
def nm (i : Nat) : Str := (["xa", "xb", "xc", "xd", "xe"] : List Str).getD i ("" : Str)
inductive St where
  | rd (v : Str) (i : Nat) | wr (i : Nat) (v : Str) | ot (w : Str) (r : List D)
structure House where
  m : Nat
  fs : Nat → Int
  jobs : List (Str × Str × List St)
def encS : St → D
  | .rd v i => .tuple [.str ("read" : Str), .str v, .str (nm i)]
  | .wr i v => .tuple [.str ("write" : Str), .str (nm i), .str v]
  | .ot w r => .tuple (.str w :: r)
def bodyD (b : List St) : D := .tuple (b.map encS)
def encJ (x : Str × Str × List St) : D := .tuple [.str x.1, .str x.2.1, bodyD x.2.2]
def jobsD (l : List (Str × Str × List St)) : D := .tuple (l.map encJ)
def bookD (h : House) (i : Nat) : D := .tuple [.str (nm i), .int (h.fs i)]
def booksD (h : House) : D := .tuple ((List.range h.m).map (bookD h))
def encH (h : House) : D := .tuple [booksD h, jobsD h.jobs]
def House.n (h : House) : Nat := h.jobs.length
def House.body (h : House) (j : Nat) : List St := ((h.jobs[j]?).map (·.2.2)).getD []
@[simp] theorem ix_h0 (h : House) : ixD (encH h) (.int 0) = some (booksD h) := by simp [encH]
@[simp] theorem ix_h1 (h : House) : ixD (encH h) (.int 1) = some (jobsD h.jobs) := by simp [encH]
@[simp] theorem ix_j2 (x : Str × Str × List St) : ixD (encJ x) (.int 2) = some (bodyD x.2.2) := by simp [encJ]
@[simp] theorem len_jobs (l : List (Str × Str × List St)) : biD .len (jobsD l) = some (.int l.length) := by simp [jobsD]
@[simp] theorem len_body (b : List St) : biD .len (bodyD b) = some (.int b.length) := by simp [bodyD]
@[simp] theorem len_books (h : House) : biD .len (booksD h) = some (.int h.m) := by simp [booksD]
theorem ix_job (h : House) (j : Nat) (hj : j < h.n) : ∃ x, ixD (jobsD h.jobs) (.int j) = some (encJ x) ∧ x.2.2 = h.body j := by
  refine ⟨h.jobs[j]'hj, ?_, ?_⟩
  · show atD _ _ = _
    rw [atD_nat, List.getElem?_map, List.getElem?_eq_getElem hj]; rfl
  · unfold House.body
    rw [List.getElem?_eq_getElem hj]; rfl
theorem ix_body {h : House} {j : Nat} (hj : j < h.n) : ((ixD (jobsD h.jobs) (.int j)).bind fun x => ixD x (.int 2)) = some (bodyD (h.body j)) := by
  obtain ⟨x, e1, e2⟩ := ix_job h j hj
  rw [e1, Option.bind_some, ix_j2, e2]
def rowB (len : Nat) (d : D) : Bool := match intsD d with
  | some ns => ascB ns && ns.all fun i => decide (1 ≤ i) && decide (i < len)
  | none => false
def noD3 : D → Bool
  | .list xs => xs.all noD2
  | .dict _ => false
  | _ => true
theorem len_D (xs : List D) : lenD (.list xs) = xs.length := rfl
def cutsB (h : House) : D → Bool
  | .list rows => decide (rows.length = h.n) && (List.range h.n).all fun j => rowB (h.body j).length (rows.getD j .none)
  | _ => false
theorem getD_at {xs : List D} {j : Nat} (hj : j < xs.length) : atD xs (j : Int) = some (xs.getD j .none) := by
  rw [atD_nat, List.getD_eq_getElem?_getD, List.getElem?_eq_getElem hj]; rfl
abbrev Acc := Bool × Nat
def encA (a : Acc) : D := .tuple [.str (if a.1 then ("writes" : Str) else ("reads" : Str)), .int (a.2 : Int)]
def encW (l : List Acc) : D := .tuple (l.map encA)
def accS : St → List Acc
  | .rd _ i => [(false, i)]
  | .wr i _ => [(true, i)]
  | .ot _ _ => []
def okS (m : Nat) : St → Prop
  | .rd _ i => i < m
  | .wr i _ => i < m
  | .ot w _ => w ≠ ("read" : Str) ∧ w ≠ ("write" : Str) ∧ w ≠ ("if" : Str)
def numbersD (m : Nat) : D := .dict ((List.range m).map fun i => (.str (nm i), .int (i : Nat)))
section
variable {α : Type} (key : α → Int ⊕ Str) (val : α → D)
theorem dget_map {as : List α} {k : Int ⊕ Str} (h : k ∉ as.map key) : dget k (as.map fun a => (keyD (key a), val a)) = none := by
  induction as with
  | nil => rfl
  | cons a as ih =>
    simp only [List.map_cons, List.mem_cons, not_or] at h
    show (if keyOf (keyD (key a)) = some k then _ else _) = none
    rw [keyOf_keyD, if_neg (by simp; exact fun z => h.1 z.symm)]
    exact ih h.2
theorem dput_map {as : List α} {a : α} (h : key a ∉ as.map key) : dput (key a) (val a) (as.map fun a => (keyD (key a), val a)) = (as ++ [a]).map fun a => (keyD (key a), val a) := by
  unfold dput
  rw [dget_map key val h]
  simp
theorem foldlM_dput {e : α → D} {turn : List (D × D) → D → Option (List (D × D))} {as : List α} (hk : (as.map key).Nodup) (h : ∀ a ∈ as, ∀ acc, turn acc (e a) = some (dput (key a) (val a) acc)) : (as.map e).foldlM turn [] = some (as.map fun a => (keyD (key a), val a)) := by
  have gen : ∀ (bs pre : List α), ((pre ++ bs).map key).Nodup → (∀ a ∈ bs, ∀ acc, turn acc (e a) = some (dput (key a) (val a) acc)) → (bs.map e).foldlM turn (pre.map fun a => (keyD (key a), val a)) = some ((pre ++ bs).map fun a => (keyD (key a), val a)) := by
    intro bs
    induction bs with
    | nil => intro pre _ _; simp
    | cons b bs ih =>
      intro pre hk h
      rw [List.map_cons, List.foldlM_cons, h b (by simp)]
      have hb : key b ∉ pre.map key := by
        rw [List.map_append, List.map_cons, List.nodup_append] at hk
        exact fun z => hk.2.2 _ z _ (by simp) rfl
      show (bs.map e).foldlM turn (dput (key b) (val b) _) = _
      rw [dput_map key val hb]
      have e1 : pre ++ b :: bs = (pre ++ [b]) ++ bs := by simp
      rw [e1]
      exact ih (pre ++ [b]) (by rw [← e1]; exact hk) fun a ha => h a (by simp [ha])
  exact gen as [] (by simpa using hk) h
end
theorem nm_eq : ∀ i j : Nat, i < 5 → j < 5 → nm i = nm j → i = j := by
  intro i j hi hj
  have : ∀ i : Fin 5, ∀ j : Fin 5, nm i.1 = nm j.1 → i.1 = j.1 := by decide +kernel
  exact this ⟨i, hi⟩ ⟨j, hj⟩
theorem nm_nodup (m : Nat) (hm : m ≤ 5) : ((List.range m).map fun i => (Sum.inr (nm i) : Int ⊕ Str)).Nodup := by
  have : ∀ m : Fin 6, ((List.range m.1).map fun i => (Sum.inr (nm i) : Int ⊕ Str)).Nodup := by decide +kernel
  exact this ⟨m, by omega⟩
@[simp] theorem ix_books (h : House) (i : Nat) (hi : i < h.m) : ixD (booksD h) (.int i) = some (bookD h i) := by
  show atD _ _ = _
  rw [atD_nat, List.getElem?_map, List.getElem?_range hi]; rfl
@[simp] theorem ix_book0 (h : House) (i : Nat) : ixD (bookD h i) (.int 0) = some (.str (nm i)) := by simp [bookD]
theorem c_account_numbers {n : Nat} (hn : 1 ≤ n) {h : House} (hm : h.m ≤ 5) : Ph n ("account_numbers" : Str) [encH h] = some (numbersD h.m) := by
  rw [run_eq (d := d_account_numbers) (by kernel_rfl) hn _ rfl]
  simp [d_account_numbers, rng_nat h.m (by omega)]
  rw [foldlM_dput (fun i : Nat => Sum.inr (nm i)) (fun i : Nat => .int (i : Int)) (nm_nodup h.m hm) fun i hi acc => ?_]
  · rfl
  · have hi : i < h.m := by simpa using hi
    simp [turnKV, ix_books h i hi, keyOf]
theorem ix_numbers {m i : Nat} (hm : m ≤ 5) (hi : i < m) : ixD (numbersD m) (.str (nm i)) = some (.int (i : Nat)) := by
  have : m = 1 ∨ m = 2 ∨ m = 3 ∨ m = 4 ∨ m = 5 := by omega
  have h2 : i = 0 ∨ i = 1 ∨ i = 2 ∨ i = 3 ∨ i = 4 := by omega
  rcases this with e | e | e | e | e <;> subst e <;> rcases h2 with e | e | e | e | e <;> subst e <;> first | (omega) | kernel_rfl
theorem c_accesses_of {n : Nat} (hn : 1 ≤ n) {m : Nat} (hm : m ≤ 5) {s : St} (hs : okS m s) : Ph n ("accesses_of" : Str) [numbersD m, encS s] = some (encW (accS s)) := by
  rw [run_eq (d := d_accesses_of) (by kernel_rfl) hn _ rfl]
  cases s with
  | rd v i => simp [d_accesses_of, encS, ix_numbers hm hs, encW, accS, encA]
  | wr i v =>
    have e : ¬ (Str.ofString "write" = Str.ofString "read") := by decide +kernel
    simp [d_accesses_of, encS, ix_numbers hm hs, encW, accS, encA, e]
  | ot w r =>
    obtain ⟨h1, h2, h3⟩ := hs
    have h1 : ¬ w = Str.ofString "read" := h1
    have h2 : ¬ w = Str.ofString "write" := h2
    simp [d_accesses_of, encS, encW, accS, h1, h2]
theorem c_accesses_in {n : Nat} (hn : 2 ≤ n) {h : House} (hm : h.m ≤ 5) {b : List St} (hb : ∀ s ∈ b, okS h.m s) (hl : b.length ≤ 1000) : Ph n ("accesses_in" : Str) [encH h, bodyD b] = some (encW (b.flatMap accS)) := by
  rw [run_eq (d := d_accesses_in) (by kernel_rfl) (by omega) _ rfl]
  simp [d_accesses_in, c_account_numbers (show 1 ≤ n - 1 by omega) hm, bodyD, Option.bind_assoc]
  have len1 : ∀ s : St, (accS s).length ≤ 1 := fun s => by cases s <;> simp [accS]
  refine goF_fold (Z := fun o => o = _) (fun (acc : List Acc) y => [some (encH h), some (.tuple (b.map encS)), some (numbersD h.m), some (encW acc), y]) (fun acc s => acc ++ accS s) (fun rest acc => acc.length + rest.length ≤ 1000) (s := []) (by simpa using hl) (fun s rest acc y hs hj => ?_) fun y hj => ?_
  · have l1 := len1 s
    simp only [List.length_cons] at hj
    have c := c_accesses_of (n := n - 1) (by omega) hm (hb s hs)
    simp [c]
    rw [show encW acc = .tuple (acc.map encA) from rfl, show encW (accS s) = .tuple ((accS s).map encA) from rfl, add_tup _ _ (by simp; omega)]
    simp [encW]
    omega
  · have fl : ∀ (as : List St) (acc : List Acc), as.foldl (fun acc s => acc ++ accS s) acc = acc ++ as.flatMap accS := by
      intro as
      induction as with
      | nil => intro acc; simp
      | cons a as ih => intro acc; simp [ih, List.append_assoc]
    simp [fl]
end Q
set_option autoImplicit false
set_option linter.all false
set_option maxRecDepth 100000
set_option maxHeartbeats 4000000
namespace Q
open PySem
theorem intsOf_ints : ∀ ns : List Int, intsOf (ns.map .int) = some ns
  | [] => rfl
  | n :: ns => by simp [intsOf, intsOf_ints ns]
theorem sset_ints {ns : List Int} (h : ns.length ≤ 60) : biD .sset (.list (ns.map .int)) = some (.list ((usort ns).map .int)) := by
  have e : biD .sset (.list (ns.map .int)) = (intsOf (ns.map .int)).bind fun ns => gate (decide (ns.length ≤ 60)) (.list ((usort ns).map .int)) := by
    cases ns with
    | nil => rfl
    | cons a r => rfl
  rw [e, intsOf_ints, Option.bind_some]
  unfold gate
  rw [if_pos (by simpa using h)]
theorem in_ints (a : Int) (ns : List Int) : inD (.int a) (.list (ns.map .int)) = some (decide (a ∈ ns)) := by
  have h : (okD 60 (.int a) && (ns.map PyData.int).all (okD 60)) = true := by
    simp only [Bool.and_eq_true, List.all_eq_true, List.mem_map]
    refine ⟨rfl, ?_⟩
    rintro x ⟨i, _, rfl⟩
    rfl
  show (if okD 60 (.int a) && (ns.map PyData.int).all (okD 60) then _ else none) = _
  rw [if_pos h]
  congr 1
  rw [Bool.eq_iff_iff]
  simp only [List.any_map, List.any_eq_true, decide_eq_true_eq, Function.comp]
  constructor
  · rintro ⟨i, hi, e⟩
    have : i = a := by simpa [PyData.eqv] using e
    exact this ▸ hi
  · intro h
    exact ⟨a, h, by simp [PyData.eqv]⟩
def wI (l : List Acc) : List Int := l.filterMap fun a => if a.1 then some (a.2 : Int) else none
def rI' (l : List Acc) : List Int := l.filterMap fun a => if a.1 then none else some (a.2 : Int)
theorem wI_len (l : List Acc) : (wI l).length ≤ l.length := List.length_filterMap_le ..
theorem rI_len (l : List Acc) : (rI' l).length ≤ l.length := List.length_filterMap_le ..
theorem c_accounts_written {n : Nat} (hn : 1 ≤ n) {l : List Acc} (hl : l.length ≤ 60) : Ph n ("accounts_written" : Str) [encW l] = some (.list ((usort (wI l)).map .int)) := by
  rw [run_eq (d := d_accounts_written) (by kernel_rfl) hn _ rfl]
  have e : ¬ (Str.ofString "reads" = Str.ofString "writes") := by decide +kernel
  simp [d_accounts_written, encW]
  rw [fmM_map (fun a : Acc => if a.1 then some (.int (a.2 : Int)) else none) fun a _ => ?_]
  · have e2 : (l.filterMap fun a : Acc => if a.1 then some (PyData.int (a.2 : Int)) else none) = (wI l).map .int := by
      unfold wI
      rw [List.map_filterMap]
      congr 1
      funext a
      cases a.1 <;> rfl
    rw [e2]
    simp [sset_ints (Nat.le_trans (wI_len l) hl)]
  · obtain ⟨w, i⟩ := a
    cases w <;> simp [turnE, encA, e]
theorem c_accounts_read {n : Nat} (hn : 1 ≤ n) {l : List Acc} (hl : l.length ≤ 60) : Ph n ("accounts_read" : Str) [encW l] = some (.list ((usort (rI' l)).map .int)) := by
  rw [run_eq (d := d_accounts_read) (by kernel_rfl) hn _ rfl]
  have e : ¬ (Str.ofString "writes" = Str.ofString "reads") := by decide +kernel
  simp [d_accounts_read, encW]
  rw [fmM_map (fun a : Acc => if a.1 then none else some (.int (a.2 : Int))) fun a _ => ?_]
  · have e2 : (l.filterMap fun a : Acc => if a.1 then none else some (PyData.int (a.2 : Int))) = (rI' l).map .int := by
      unfold rI'
      rw [List.map_filterMap]
      congr 1
      funext a
      cases a.1 <;> rfl
    rw [e2]
    simp [sset_ints (Nat.le_trans (rI_len l) hl)]
  · obtain ⟨w, i⟩ := a
    cases w <;> simp [turnE, encA, e]
theorem c_have_common {n : Nat} (hn : 1 ≤ n) (A B : List Int) : Ph n ("have_common" : Str) [.list (A.map .int), .list (B.map .int)] = some (.bool (A.any fun a => decide (a ∈ B))) := by
  rw [run_eq (d := d_have_common) (by kernel_rfl) hn _ rfl]
  simp [d_have_common, Option.bind_assoc]
  refine goF_check (Z := fun o => o = _) (fun y => [some (.list (A.map .int)), some (.list (B.map .int)), y]) (fun a => !decide (a ∈ B)) (.bool true) (fun a ha y => ?_) (fun y h => ?_) fun h => ?_
  · by_cases q : a ∈ B <;> simp [in_ints, q]
  · simp
    simpa using h
  · simp
    simpa using h
def meet (x y : List Acc) : Bool := (x.any fun a => a.1 && y.any fun b => b.2 == a.2) || (y.any fun b => b.1 && x.any fun a => !a.1 && a.2 == b.2)
def aI (l : List Acc) : List Int := l.map fun a => (a.2 : Int)
theorem any_usort (l : List Int) (p : Int → Bool) : (usort l).any p = l.any p := by
  rw [Bool.eq_iff_iff]
  simp only [List.any_eq_true, usort_mem]
theorem meet_eq (x y : List Acc) : ((usort (wI x)).any fun a => decide (a ∈ aI y)) = (x.any fun a => a.1 && y.any fun b => b.2 == a.2) := by
  rw [any_usort, Bool.eq_iff_iff]
  simp only [List.any_eq_true, wI, aI, List.mem_filterMap, decide_eq_true_eq, List.mem_map, Bool.and_eq_true, beq_iff_eq]
  constructor
  · rintro ⟨i, ⟨a, ha, e⟩, b, hb, e2⟩
    cases q : a.1 with
    | false => rw [q] at e; cases e
    | true =>
      rw [q] at e
      simp at e
      exact ⟨a, ha, q, b, hb, by omega⟩
  · rintro ⟨a, ha, q, b, hb, e⟩
    exact ⟨a.2, ⟨a, ha, by rw [q]; rfl⟩, b, hb, by rw [e]⟩
theorem meet_eq2 (x y : List Acc) : ((usort (wI y)).any fun a => decide (a ∈ usort (rI' x))) = (y.any fun b => b.1 && x.any fun a => !a.1 && a.2 == b.2) := by
  rw [any_usort, Bool.eq_iff_iff]
  simp only [List.any_eq_true, wI, usort_mem, rI', List.mem_filterMap, decide_eq_true_eq, Bool.and_eq_true, beq_iff_eq, Bool.not_eq_true']
  constructor
  · rintro ⟨i, ⟨a, ha, e⟩, b, hb, e2⟩
    cases q : a.1 with
    | false => rw [q] at e; cases e
    | true =>
      rw [q] at e
      simp at e
      cases q2 : b.1 with
      | true => rw [q2] at e2; cases e2
      | false =>
        rw [q2] at e2
        simp at e2
        exact ⟨a, ha, q, b, hb, q2, by omega⟩
  · rintro ⟨a, ha, q, b, hb, q2, e⟩
    exact ⟨a.2, ⟨a, ha, by rw [q]; rfl⟩, b, hb, by rw [q2, e]; rfl⟩
theorem c_do_meet {n : Nat} (hn : 2 ≤ n) {x y : List Acc} (hx : x.length ≤ 60) (hy : y.length ≤ 60) : Ph n ("do_meet" : Str) [encW x, encW y] = some (.bool (meet x y)) := by
  rw [run_eq (d := d_do_meet) (by kernel_rfl) (by omega) _ rfl]
  have e1 : fmM (turnE (Ph (n - 1)) [2, 3] (.tp [2, 3]) false .non (.var 3) [some (encW x), some (encW y), none, none]) (y.map encA) = some ((aI y).map .int) := by
    rw [fmM_all (fun a : Acc => .int (a.2 : Int)) fun a _ => ?_]
    · simp [aI]
    · simp [turnE, encA]
  have c1 := c_accounts_written (n := n - 1) (by omega) hx
  have c2 := c_accounts_written (n := n - 1) (by omega) hy
  have c3 := c_accounts_read (n := n - 1) (by omega) hx
  have c4 := c_have_common (n := n - 1) (by omega) (usort (wI x)) (aI y)
  have c5 := c_have_common (n := n - 1) (by omega) (usort (wI y)) (usort (rI' x))
  rw [meet_eq] at c4
  rw [meet_eq2] at c5
  have iy : itemsD (encW y) = some (y.map encA) := rfl
  unfold meet
  cases q : x.any fun a => a.1 && y.any fun b => b.2 == a.2 with
  | true => rw [q] at c4; simp [d_do_meet, iy, e1, c1, c4]
  | false => rw [q] at c4; simp [d_do_meet, iy, e1, c1, c2, c3, c4, c5]
theorem meet_comm (x y : List Acc) : meet x y = meet y x := by
  rw [Bool.eq_iff_iff]
  unfold meet
  simp only [Bool.or_eq_true, List.any_eq_true, Bool.and_eq_true, beq_iff_eq, Bool.not_eq_true']
  constructor
  · rintro (⟨a, ha, q, b, hb, e⟩ | ⟨b, hb, q, a, ha, q2, e⟩)
    · cases q2 : b.1 with
      | true => exact .inl ⟨b, hb, q2, a, ha, e.symm⟩
      | false => exact .inr ⟨a, ha, q, b, hb, q2, e⟩
    · exact .inl ⟨b, hb, q, a, ha, e⟩
  · rintro (⟨a, ha, q, b, hb, e⟩ | ⟨b, hb, q, a, ha, q2, e⟩)
    · cases q2 : b.1 with
      | true => exact .inl ⟨b, hb, q2, a, ha, e.symm⟩
      | false => exact .inr ⟨a, ha, q, b, hb, q2, e⟩
    · exact .inl ⟨b, hb, q, a, ha, e⟩
theorem meet_any (x : List Acc) (y : List Acc) : meet x y = x.any fun a => meet [a] y := by
  rw [Bool.eq_iff_iff]
  unfold meet
  simp only [Bool.or_eq_true, List.any_eq_true, Bool.and_eq_true, beq_iff_eq, Bool.not_eq_true', List.any_cons, List.any_nil, Bool.or_false]
  constructor
  · rintro (⟨a, ha, q, b, hb, e⟩ | ⟨b, hb, q, a, ha, q2, e⟩)
    · exact ⟨a, ha, .inl ⟨q, b, hb, e⟩⟩
    · exact ⟨a, ha, .inr ⟨b, hb, q, q2, e⟩⟩
  · rintro ⟨a, ha, (⟨q, b, hb, e⟩ | ⟨b, hb, q, q2, e⟩)⟩
    · exact .inl ⟨a, ha, q, b, hb, e⟩
    · exact .inr ⟨b, hb, q, a, ha, q2, e⟩
theorem meet_flat {α : Type} (b : List α) (f : α → List Acc) (y : List Acc) : meet (b.flatMap f) y = b.any fun s => meet (f s) y := by
  rw [meet_any, List.any_flatMap]
  congr 1
  funext s
  rw [meet_any (f s)]
structure Good5 (h : House) : Prop where
  m : h.m ≤ 5
  n : h.n ≤ 5
  len : ∀ j, (h.body j).length ≤ 60
  ok : ∀ j, ∀ s ∈ h.body j, okS h.m s
def accs (b : List St) : List Acc := b.flatMap accS
theorem accs_len (b : List St) : (accs b).length ≤ b.length := by
  unfold accs
  induction b with
  | nil => simp
  | cons s b ih =>
    have : (accS s).length ≤ 1 := by cases s <;> simp [accS]
    simp only [List.flatMap_cons, List.length_append, List.length_cons]
    omega
def House.acc (h : House) (j : Nat) : List Acc := accs (h.body j)
theorem Good5.acc {h : House} (g : Good5 h) (j : Nat) : (h.acc j).length ≤ 60 := Nat.le_trans (accs_len _) (g.len j)
theorem c_acc_in {n : Nat} (hn : 2 ≤ n) {h : House} (g : Good5 h) {b : List St} (hb : ∀ s ∈ b, okS h.m s) (hl : b.length ≤ 60) : Ph n ("accesses_in" : Str) [encH h, bodyD b] = some (encW (accs b)) := c_accesses_in hn g.m hb (by omega)
theorem c_body_accesses {n : Nat} (hn : 3 ≤ n) {h : House} (g : Good5 h) {j : Nat} (hj : j < h.n) : Ph n ("body_accesses" : Str) [encH h, .int j] = some (encW (h.acc j)) := by
  rw [run_eq (d := d_body_accesses) (by kernel_rfl) (by omega) _ rfl]
  obtain ⟨x, e1, e2⟩ := ix_job h j hj
  have c := c_acc_in (n := n - 1) (by omega) g (g.ok j) (g.len j)
  simp [d_body_accesses, e1, e2, c]
  rfl
def House.adj (h : House) (i j : Nat) : Bool := meet (h.acc i) (h.acc j)
theorem c_jobs_meet {n : Nat} (hn : 4 ≤ n) {h : House} (g : Good5 h) {i j : Nat} (hi : i < h.n) (hj : j < h.n) : Ph n ("jobs_meet" : Str) [encH h, .int i, .int j] = some (.bool (h.adj i j)) := by
  rw [run_eq (d := d_jobs_meet) (by kernel_rfl) (by omega) _ rfl]
  have c1 := c_body_accesses (n := n - 1) (by omega) g hi
  have c2 := c_body_accesses (n := n - 1) (by omega) g hj
  have c3 := c_do_meet (n := n - 1) (by omega) (g.acc i) (g.acc j)
  simp [d_jobs_meet, c1, c2, c3]
  rfl
def others (n j : Nat) : List Nat := (List.range n).filter fun i => decide (i ≠ j)
def natsD (l : List Nat) : List D := l.map fun (i : Nat) => PyData.int (i : Int)
theorem c_other_jobs {n : Nat} (hn : 1 ≤ n) {h : House} (hh : h.n ≤ 5) (j : Nat) : Ph n ("other_jobs" : Str) [encH h, .int j] = some (.list (natsD (others h.n j))) := by
  rw [run_eq (d := d_other_jobs) (by kernel_rfl) hn _ rfl]
  have hl : h.jobs.length = h.n := rfl
  simp [d_other_jobs, hl, rng_nat h.n (by omega)]
  rw [fmM_map (fun i : Nat => if i = j then none else some (.int (i : Int))) fun i _ => ?_]
  · have e : ∀ l : List Nat, (l.filterMap fun i : Nat => if i = j then none else some (PyData.int (i : Int))) = natsD (l.filter fun i => decide (i ≠ j)) := by
      intro l
      induction l with
      | nil => rfl
      | cons a l ih =>
        by_cases q : a = j
        · simp [q, ih]
        · simp [q, ih, natsD]
    rw [e]
    rfl
  · by_cases q : i = j
    · simp [turnE, q]
    · simp [turnE, q]
      omega
end Q
set_option autoImplicit false
set_option linter.all false
set_option maxRecDepth 100000
set_option maxHeartbeats 4000000
namespace Q
open PySem
def rowD (r : List Nat) : D := .list (natsD r)
def cutsD (c : List (List Nat)) : D := .list (c.map rowD)
def placesOf (b : List St) (r : List Nat) : List Nat := 0 :: (r ++ [b.length])
def piece (b : List St) (r : List Nat) (k : Nat) : List St := (b.drop ((placesOf b r).getD k 0)).take ((placesOf b r).getD (k + 1) 0 - (placesOf b r).getD k 0)
def pieces (b : List St) (r : List Nat) : List (List St) := (List.range (r.length + 1)).map (piece b r)
theorem at_nats (l : List Nat) (k : Nat) (hk : k < l.length) : atD (natsD l) (k : Int) = some (.int (l.getD k 0 : Nat)) := by
  unfold natsD
  rw [atD_nat, List.getElem?_map, List.getElem?_eq_getElem hk, List.getD_eq_getElem?_getD, List.getElem?_eq_getElem hk]; rfl
theorem sIx_nat (n d i : Nat) : sIx n d (some (i : Int)) = min i n := by
  show (if (i : Int) < 0 then ((i : Int) + n).toNat else min (i : Int).toNat n) = _
  rw [if_neg (by omega)]
  simp
theorem cut_nat (xs : List D) (i j : Nat) (hi : i ≤ xs.length) (hj : j ≤ xs.length) : slD (some (i : Int)) (some (j : Int)) (.tuple xs) = some (.tuple ((xs.drop i).take (j - i))) := by
  show some (PyData.tuple (cutD xs _ _)) = _
  unfold cutD
  rw [sIx_nat, sIx_nat, Nat.min_eq_left hi, Nat.min_eq_left hj]
theorem places_le {b : List St} {r : List Nat} (hr : ∀ p ∈ r, p ≤ b.length) (k : Nat) : (placesOf b r).getD k 0 ≤ b.length := by
  by_cases h : k < (placesOf b r).length
  · have hm := List.getElem_mem h
    rw [List.getD_eq_getElem?_getD, List.getElem?_eq_getElem h]
    show (placesOf b r)[k] ≤ _
    unfold placesOf at hm ⊢
    simp only [List.mem_cons, List.mem_append, List.not_mem_nil, or_false] at hm
    rcases hm with e | e | e
    · omega
    · exact hr _ e
    · omega
  · rw [List.getD_eq_getElem?_getD, List.getElem?_eq_none (by omega)]; exact Nat.zero_le _
theorem ix_cuts (c : List (List Nat)) (j : Nat) (hj : j < c.length) : ixD (cutsD c) (.int j) = some (rowD (c.getD j [])) := by
  show atD _ _ = _
  rw [atD_nat, List.getElem?_map, List.getElem?_eq_getElem hj, List.getD_eq_getElem?_getD, List.getElem?_eq_getElem hj]; rfl
@[simp] theorem nats_cons (a : Nat) (l : List Nat) : natsD (a :: l) = .int (a : Int) :: natsD l := rfl
@[simp] theorem nats_nil : natsD [] = [] := rfl
@[simp] theorem nats_app (a b : List Nat) : natsD (a ++ b) = natsD a ++ natsD b := by simp [natsD]
@[simp] theorem nats_len (a : List Nat) : (natsD a).length = a.length := by simp [natsD]
theorem c_pieces_of {n : Nat} (hn : 1 ≤ n) {h : House} {c : List (List Nat)} {j : Nat} (hj : j < h.n) (hc : j < c.length) (hr : ∀ p ∈ c.getD j [], p ≤ (h.body j).length) (hl : (c.getD j []).length ≤ 1000) :
    Ph n ("pieces_of" : Str) [encH h, cutsD c, .int j] = some (.list ((pieces (h.body j) (c.getD j [])).map bodyD)) := by
  rw [run_eq (d := d_pieces_of) (by kernel_rfl) (by omega) _ rfl]
  obtain ⟨x, e1, e2⟩ := ix_job h j hj
  have e3 := ix_cuts c j hc
  generalize c.getD j [] = r at hr hl e3 ⊢
  have a1 : binD .add (.list [.int 0]) (.list (natsD r)) = some (.list (.int 0 :: natsD r)) := add_list _ _ (by simp; omega)
  have a2 : binD .add (.list (.int 0 :: natsD r)) (.list [.int ((h.body j).length : Int)]) = some (.list (natsD (placesOf (h.body j) r))) := by
    rw [add_list _ _ (by simp; omega)]
    simp [placesOf]
  have hp : (placesOf (h.body j) r).length = r.length + 2 := by simp [placesOf]
  simp [d_pieces_of, e1, e2, e3, rowD, a1, a2, hp]
  have e4 : ((r.length : Int) + 2 - 1) = ((r.length + 1 : Nat) : Int) := by omega
  rw [e4, rng_nat _ (by omega)]
  simp
  rw [fmM_all (fun k : Nat => bodyD (piece (h.body j) r k)) fun k hk => ?_]
  · simp [pieces]
  · have hk : k < r.length + 1 := by simpa using hk
    have b1 := at_nats (placesOf (h.body j) r) k (by omega)
    have b2 := at_nats (placesOf (h.body j) r) (k + 1) (by omega)
    have b3 := cut_nat ((h.body j).map encS) _ _ (by simpa using places_le hr k) (by simpa using places_le hr (k + 1))
    rw [Int.natCast_add] at b2
    simp [turnE]
    simp at b1 b2 b3
    simp [b1, b2, bodyD, b3, piece]
theorem piece_sub {b : List St} {r : List Nat} {k : Nat} {s : St} (hs : s ∈ piece b r k) : s ∈ b := List.mem_of_mem_drop (List.mem_of_mem_take hs)
theorem piece_len (b : List St) (r : List Nat) (k : Nat) : (piece b r k).length ≤ b.length := by
  unfold piece
  rw [List.length_take, List.length_drop]
  omega
def accsL (ps : List (List St)) : D := .list (ps.map fun p => encW (accs p))
theorem c_piece_accesses {n : Nat} (hn : 3 ≤ n) {h : House} (g : Good5 h) {c : List (List Nat)} {j : Nat} (hj : j < h.n) (hc : j < c.length) (hr : ∀ p ∈ c.getD j [], p ≤ (h.body j).length) (hl : (c.getD j []).length ≤ 1000) :
    Ph n ("piece_accesses" : Str) [encH h, cutsD c, .int j] = some (accsL (pieces (h.body j) (c.getD j []))) := by
  rw [run_eq (d := d_piece_accesses) (by kernel_rfl) (by omega) _ rfl]
  have c1 := c_pieces_of (n := n - 1) (by omega) hj hc hr hl
  simp [d_piece_accesses] at c1 ⊢
  simp [c1]
  rw [fmM_all (fun p : List St => encW (accs p)) fun p hp => ?_]
  · rfl
  · unfold pieces at hp
    obtain ⟨k, _, rfl⟩ := List.mem_map.mp hp
    have c2 := c_acc_in (n := n - 1) (by omega) g (b := piece (h.body j) (c[j]?.getD []) k) (fun s hs => g.ok j s (piece_sub hs)) (Nat.le_trans (piece_len _ _ _) (g.len j))
    simp [turnE, c2]
def hitL (h : House) (x : List Acc) (l : List Nat) : Bool := l.any fun o => meet x (h.acc o)
theorem filter_len {α : Type} (l : List α) (p : α → Bool) : (decide ((0 : Int) < ((l.filter p).length : Int))) = l.any p := by
  rw [Bool.eq_iff_iff]
  simp only [decide_eq_true_eq, List.any_eq_true]
  constructor
  · intro h
    obtain ⟨a, ha⟩ := List.exists_mem_of_length_pos (l := l.filter p) (by omega)
    exact ⟨a, (List.mem_filter.mp ha).1, (List.mem_filter.mp ha).2⟩
  · rintro ⟨a, ha, hp⟩
    have := List.length_pos_of_mem (List.mem_filter.mpr ⟨ha, hp⟩)
    omega
theorem fm_filter (l : List Nat) (p : Nat → Bool) : (l.filterMap fun (i : Nat) => if p i then some (PyData.int (i : Int)) else none) = natsD (l.filter p) := by
  induction l with
  | nil => rfl
  | cons a l ih => cases q : p a <;> simp [q, ih]
theorem c_pieces_met {n : Nat} (hn : 4 ≤ n) {h : House} (g : Good5 h) {xs : List (List Acc)} (hx : ∀ x ∈ xs, x.length ≤ 60) {l : List Nat} (hl : ∀ o ∈ l, o < h.n) :
    Ph n ("pieces_met" : Str) [encH h, .list (xs.map encW), .list (natsD l)] = some (.int ((xs.countP fun x => hitL h x l : Nat) : Int)) := by
  rw [run_eq (d := d_pieces_met) (by kernel_rfl) (by omega) _ rfl]
  simp [d_pieces_met, Option.bind_assoc]
  refine goF_fold (Z := fun o => o = _) (fun (c : Nat) y => [some (encH h), some (.list (xs.map encW)), some (.list (natsD l)), some (.int (c : Int)), y, none]) (fun c x => if hitL h x l then c + 1 else c) (fun _ _ => True) (s := 0) trivial (fun x rest c y hx2 _ => ⟨?_, trivial⟩) fun y _ => ?_
  · have e1 : fmM (turnE (Ph (n - 1)) [5] (.nm 5) true (.call .frz ("do_meet" : Str) (.cons (.var 4) (.cons (.call .frz ("body_accesses" : Str) (.cons (.var 0) (.cons (.var 5) .nil))) .nil))) (.var 5) [some (encH h), some (.list (xs.map encW)), some (.list (natsD l)), some (.int (c : Int)), some (encW x), none]) (natsD l) = some (natsD (l.filter fun o => meet x (h.acc o))) := by
      unfold natsD
      rw [fmM_map (fun o : Nat => if meet x (h.acc o) then some (.int (o : Int)) else none) fun o ho => ?_]
      · rw [fm_filter]; rfl
      · have c1 := c_body_accesses (n := n - 1) (by omega) g (hl o ho)
        have c2 := c_do_meet (n := n - 1) (by omega) (hx x hx2) (g.acc o)
        cases q : meet x (h.acc o) <;> simp [turnE, c1, c2, q]
    have e2 := filter_len l fun o => meet x (h.acc o)
    cases q : hitL h x l with
    | true =>
      have q : (l.any fun o => meet x (h.acc o)) = true := q
      rw [q] at e2
      simp at e2
      simp [e1, e2]
    | false =>
      have q : (l.any fun o => meet x (h.acc o)) = false := q
      rw [q] at e2
      simp at e2
      have e3 : ¬ ∃ o, o ∈ l ∧ meet x (h.acc o) = true := by
        rintro ⟨o, ho, e⟩
        rw [e2 o ho] at e
        cases e
      simp [e1, e3]
  · have fl : ∀ (as : List (List Acc)) (c : Nat), as.foldl (fun c x => if hitL h x l then c + 1 else c) c = c + as.countP fun x => hitL h x l := by
      intro as
      induction as with
      | nil => intro c; simp
      | cons a as ih =>
        intro c
        rw [List.foldl_cons, ih, List.countP_cons]
        split <;> omega
    simp [fl]
theorem c_are_apart {n : Nat} (hn : 5 ≤ n) {h : House} (g : Good5 h) {l m : List Nat} (hl : ∀ o ∈ l, o < h.n) (hm : ∀ o ∈ m, o < h.n) : Ph n ("are_apart" : Str) [encH h, .list (natsD l), .list (natsD m)] = some (.bool (l.all fun i => m.all fun j => !h.adj i j)) := by
  rw [run_eq (d := d_are_apart) (by kernel_rfl) (by omega) _ rfl]
  simp [d_are_apart, Option.bind_assoc]
  refine goF_checkE (Z := fun o => o = _) (fun (t : Option D × Option D) => [some (encH h), some (.list (natsD l)), some (.list (natsD m)), t.1, t.2]) (fun i : Nat => m.all fun j => !h.adj i j) (.bool false) (t := (none, none)) (fun i hi t => ?_) (fun y q => ?_) fun q => ?_
  · obtain ⟨t1, t2⟩ := t
    simp [Option.bind_assoc]
    refine goF_check (Z := fun o => ∃ a b, o = some (if (∀ x, x ∈ m → h.adj i x = false) then R.nx [some (encH h), some (.list (natsD l)), some (.list (natsD m)), a, b] else R.rt (.bool false))) (fun y => [some (encH h), some (.list (natsD l)), some (.list (natsD m)), some (.int (i : Int)), y]) (fun j : Nat => !h.adj i j) (.bool false) (fun j hj y => ?_) (fun y q => ?_) fun q => ?_
    · have c := c_jobs_meet (n := n - 1) (by omega) g (hl i hi) (hm j hj)
      cases q : h.adj i j <;> simp [c, q]
    · simp at q
      simp
      refine ⟨some (.int (i : Int)), y, ?_⟩
      rw [if_pos q]
    · have q2 : ¬ ∀ x, x ∈ m → h.adj i x = false := by simpa using q
      simp [q2]
  · simp
    simpa using q
  · simp
    simpa using q
end Q
set_option autoImplicit false
set_option linter.all false
set_option maxRecDepth 100000
set_option maxHeartbeats 4000000
namespace Q
open PySem
def stepQ (adj : Nat → Nat → Bool) (os kn : List Nat) (a : Nat) (q : List Nat) : List Nat := os.foldl (fun q o => if !(kn ++ q).contains o && adj (q.getD a 0) o then q ++ [o] else q) q
def bfs (adj : Nat → Nat → Bool) (os kn : List Nat) : Nat → Nat → List Nat → List Nat
  | 0, _, q => q
  | f + 1, a, q => if a < q.length then bfs adj os kn f (a + 1) (stepQ adj os kn a q) else q
def knownD (q : List Nat) : D := .dict (q.map fun (o : Nat) => (.int (o : Int), .bool true))
theorem known_eq (q : List Nat) : q.map (fun (o : Nat) => (PyData.int (o : Int), PyData.bool true)) = q.map fun o => (keyD ((fun o : Nat => (Sum.inl (o : Int) : Int ⊕ Str)) o), (fun _ : Nat => PyData.bool true) o) := rfl
theorem dget_known (o : Nat) (q : List Nat) : (dget (.inl (o : Int)) (q.map fun (o : Nat) => (PyData.int (o : Int), PyData.bool true))).isSome = q.contains o := by
  induction q with
  | nil => rfl
  | cons a q ih =>
    show (if keyOf (.int (a : Int)) = some (Sum.inl (o : Int)) then some (PyData.bool true) else dget _ _).isSome = _
    by_cases h : a = o
    · subst h
      simp [keyOf]
    · have h2 : ¬ (keyOf (.int (a : Int)) = some (Sum.inl (o : Int))) := by
        simp [keyOf]
        omega
      rw [if_neg h2, ih]
      have h3 : (o == a) = false := by simpa using fun z => h z.symm
      simp [h3]
      intro z
      exact absurd z.symm h
theorem isScr_known (q : List Nat) : isScr (knownD q) = none := by
  unfold knownD
  match q with
  | [] => rfl
  | [a] => rfl
  | a :: b :: r => rfl
theorem in_known (o : Nat) (q : List Nat) : inD (.int (o : Int)) (knownD q) = some (q.contains o) := by
  show (if (isScr (knownD q)).isSome then none else (keyOf (.int (o : Int))).map fun k => (dget k _).isSome) = _
  rw [isScr_known]
  simp [keyOf]
  have := dget_known o q
  simpa using this
theorem put_known (o : Nat) (q : List Nat) (h : q.contains o = false) : dput (.inl (o : Int)) (.bool true) (q.map fun (o : Nat) => (PyData.int (o : Int), PyData.bool true)) = (q ++ [o]).map fun (o : Nat) => (PyData.int (o : Int), PyData.bool true) := by
  refine dput_map (fun o : Nat => Sum.inl (o : Int)) (fun _ => .bool true) (a := o) (as := q) ?_
  rw [List.mem_map]
  rintro ⟨a, ha, e⟩
  have : a = o := by injection e with e; omega
  subst this
  have : q.contains a = true := by simpa using ha
  rw [this] at h
  cases h
theorem putD_known {o : Nat} {q : List Nat} (h : q.contains o = false) (hq : q.length < 16777216) (i : Nat) (ρ : Env) : putD i ρ (.int (o : Int)) (.bool true) (some (knownD q)) = stO i (knownD (q ++ [o])) ρ := by
  unfold knownD
  rw [putD_dict]
  show (if _ < SL then _ else none) = _
  rw [if_pos (by rw [List.length_map, SL_eq]; exact hq), put_known o q h]
def lastN (l : List Nat) : Nat := l.getLast?.getD 0
theorem at_last {l : List Nat} (h : l ≠ []) : atD (natsD l) (-1) = some (.int (lastN l : Nat)) := by
  obtain ⟨m, a, rfl⟩ : ∃ m a, l = m ++ [a] := ⟨l.dropLast, l.getLast h, (List.dropLast_concat_getLast h).symm⟩
  unfold atD ixN
  rw [if_neg (by omega), if_pos (by simp; omega)]
  have e : ((-1 : Int) + ((natsD (m ++ [a])).length : Int)).toNat = m.length := by simp; omega
  rw [e]
  simp [lastN]
structure Lns (os : List Nat) (nodes : List (List Nat)) (q : List Nat) : Prop where
  last : nodes.map lastN = q
  ne : ∀ l ∈ nodes, l ≠ [] ∧ l.length ≤ q.length
  nd : q.Nodup
  sub : ∀ o ∈ q, o ∈ os
theorem Lns.len {os : List Nat} {nodes : List (List Nat)} {q : List Nat} (i : Lns os nodes q) : nodes.length = q.length ∧ q.length ≤ os.length := ⟨by rw [← i.last]; simp, L2.nat_nodup_len q os i.nd i.sub⟩
theorem others_lt {n j o : Nat} (h : o ∈ others n j) : o < n := by
  have := (List.mem_filter.mp h).1
  simpa using this
theorem others_len (n j : Nat) : (others n j).length ≤ n := by
  have := List.length_filter_le (fun i => decide (i ≠ j)) (List.range n)
  unfold others
  simpa using this
theorem others_nd (n j : Nat) : (others n j).Nodup := List.nodup_range.filter _
theorem Lns.add {os : List Nat} {nodes : List (List Nat)} {q : List Nat} (i : Lns os nodes q) {a o : Nat} (ha : a < q.length) (ho : o ∈ os) (hq : q.contains o = false) : Lns os (nodes ++ [nodes.getD a [] ++ [o]]) (q ++ [o]) := by
  have hl := i.len.1
  have hm : nodes.getD a [] ∈ nodes := by
    rw [List.getD_eq_getElem?_getD, List.getElem?_eq_getElem (by omega)]; exact List.getElem_mem _
  refine ⟨by rw [List.map_append, i.last]; simp [lastN], fun l h => ?_, ?_, fun x hx => ?_⟩
  · rcases List.mem_append.mp h with h | h
    · obtain ⟨h1, h2⟩ := i.ne l h
      exact ⟨h1, by simp; omega⟩
    · have : l = nodes.getD a [] ++ [o] := by simpa using h
      subst this
      have := (i.ne _ hm).2
      exact ⟨by simp, by simp; simpa using this⟩
  · rw [List.nodup_append]
    refine ⟨i.nd, by simp, fun x hx y hy => ?_⟩
    have : y = o := by simpa using hy
    subst this
    intro e
    subst e
    have : q.contains x = true := by simpa using hx
    rw [this] at hq
    cases hq
  · rcases List.mem_append.mp hx with h | h
    · exact i.sub x h
    · have : x = o := by simpa using h
      subst this
      exact ho
theorem atNodes (nodes : List (List Nat)) (a : Nat) (ha : a < nodes.length) : atD (nodes.map rowD) (a : Int) = some (rowD (nodes.getD a [])) := by
  rw [atD_nat, List.getElem?_map, List.getElem?_eq_getElem ha, List.getD_eq_getElem?_getD, List.getElem?_eq_getElem ha]; rfl
theorem getD_last (nodes : List (List Nat)) (q : List Nat) (h : nodes.map lastN = q) (a : Nat) (ha : a < nodes.length) : lastN (nodes.getD a []) = q.getD a 0 := by
  subst h
  rw [List.getD_eq_getElem?_getD, List.getElem?_eq_getElem ha, List.getD_eq_getElem?_getD, List.getElem?_map, List.getElem?_eq_getElem ha]; rfl
def chB (adj : Nat → Nat → Bool) : List Nat → Bool
  | a :: b :: r => adj a b && chB adj (b :: r)
  | _ => true
theorem chB_app (adj : Nat → Nat → Bool) (o : Nat) : ∀ l : List Nat, l ≠ [] → chB adj (l ++ [o]) = (chB adj l && adj (lastN l) o)
  | [], h => absurd rfl h
  | [a], _ => by simp [chB, lastN]
  | a :: b :: r, _ => by
    have ih := chB_app adj o (b :: r) (by simp)
    have e : lastN (a :: b :: r) = lastN (b :: r) := by simp [lastN]
    rw [e]
    show (adj a b && chB adj (b :: r ++ [o])) = (adj a b && chB adj (b :: r) && _)
    rw [ih, Bool.and_assoc]
structure Pth (h : House) (os : List Nat) (x : List Acc) (l : List Nat) : Prop where
  nd : l.Nodup
  sub : ∀ o ∈ l, o ∈ os
  ch : chB h.adj l = true
  hd : meet x (h.acc (l.getD 0 0)) = true
def Lnt (h : House) (os : List Nat) (x : List Acc) (nodes : List (List Nat)) (q : List Nat) : Prop := ∀ l ∈ nodes, Pth h os x l ∧ ∀ o ∈ l, o ∈ q
theorem Lnt.add {h : House} {os : List Nat} {x : List Acc} {nodes : List (List Nat)} {q : List Nat} (i : Lns os nodes q) (t : Lnt h os x nodes q) {a o : Nat} (ha : a < q.length) (ho : o ∈ os) (hq : q.contains o = false) (hadj : h.adj (q.getD a 0) o = true) : Lnt h os x (nodes ++ [nodes.getD a [] ++ [o]]) (q ++ [o]) := by
  have hl := i.len.1
  have hm : nodes.getD a [] ∈ nodes := by
    rw [List.getD_eq_getElem?_getD, List.getElem?_eq_getElem (by omega)]; exact List.getElem_mem _
  have hla := getD_last nodes q i.last a (by omega)
  intro l h
  rcases List.mem_append.mp h with h | h
  · exact ⟨(t l h).1, fun o ho => List.mem_append.mpr (.inl ((t l h).2 o ho))⟩
  · rw [List.mem_singleton.mp h]
    obtain ⟨p, s⟩ := t _ hm
    have ne := (i.ne _ hm).1
    generalize nodes.getD a [] = r at hla p s ne
    refine ⟨⟨?_, ?_, ?_, ?_⟩, ?_⟩
    · rw [List.nodup_append]
      refine ⟨p.nd, by simp, fun x hx y hy e => ?_⟩
      rw [List.mem_singleton.mp hy] at e
      have : q.contains o = true := by simpa using e ▸ s x hx
      rw [this] at hq
      cases hq
    · intro y hy
      rcases List.mem_append.mp hy with h | h
      · exact p.sub y h
      · rw [List.mem_singleton.mp h]; exact ho
    · rw [chB_app _ _ _ ne, p.ch, hla, hadj]; rfl
    · have e : (r ++ [o]).getD 0 0 = r.getD 0 0 := by
        cases r with
        | nil => exact absurd rfl ne
        | cons => rfl
      rw [e]; exact p.hd
    · intro y hy
      rcases List.mem_append.mp hy with h | h
      · exact List.mem_append.mpr (.inl (s y h))
      · rw [List.mem_singleton.mp h]; simp
theorem c_lists_from {n : Nat} (hn : 5 ≤ n) {h : House} (g : Good5 h) {x : List Acc} (hx : x.length ≤ 60) {j : Nat} :
    ∃ nodes : List (List Nat), Ph n ("lists_from" : Str) [encH h, encW x, .int (j : Int)] = some (.list (nodes.map rowD)) ∧ nodes.map lastN = bfs h.adj (others h.n j) [] (others h.n j).length 0 ((others h.n j).filter fun o => meet x (h.acc o)) ∧ ∀ l ∈ nodes, (l ≠ [] ∧ lastN l < h.n) ∧ Pth h (others h.n j) x l := by
  rw [run_eq (d := d_lists_from) (by kernel_rfl) (by omega) _ rfl]
  have co := c_other_jobs (n := n - 1) (by omega) g.n j
  generalize hos : others h.n j = os at co ⊢
  have olt : ∀ o ∈ os, o < h.n := fun o ho => by subst hos; exact others_lt ho
  have ond : os.Nodup := by subst hos; exact others_nd _ _
  have olen : os.length ≤ 5 := by subst hos; exact Nat.le_trans (others_len _ _) g.n
  have e1 : fmM (turnE (Ph (n - 1)) [6] (.nm 6) true (.call .frz ("do_meet" : Str) (.cons (.var 1) (.cons (.call .frz ("body_accesses" : Str) (.cons (.var 0) (.cons (.var 6) .nil))) .nil))) (.lst (.cons (.var 6) .nil)) [some (encH h), some (encW x), some (.int (j : Int)), none, none, none, none, none]) (natsD os) = some (((os.filter fun o => meet x (h.acc o)).map fun o => [o]).map rowD) := by
    unfold natsD
    rw [fmM_map (fun o : Nat => if meet x (h.acc o) then some (rowD [o]) else none) fun o ho => ?_]
    · congr 1
      clear co ond olen hos
      induction os with
      | nil => rfl
      | cons a l ih =>
        have ih := ih fun o ho => olt o (by simp [ho])
        cases q : meet x (h.acc a) <;> simp [q, ih]
    · have c1 := c_body_accesses (n := n - 1) (by omega) g (olt o ho)
      have c2 := c_do_meet (n := n - 1) (by omega) hx (g.acc o)
      cases q : meet x (h.acc o) <;> simp [turnE, c1, c2, q, rowD]
  generalize hS : (os.filter fun o => meet x (h.acc o)) = S at e1 ⊢
  have i0 : Lns os (S.map fun o => [o]) S := by
    refine ⟨by rw [List.map_map]; simp [Function.comp_def, lastN], fun l hl => ?_, ?_, fun o ho => ?_⟩
    · obtain ⟨o, ho, rfl⟩ := List.mem_map.mp hl
      exact ⟨by simp, by have := List.length_pos_of_mem ho; simp; omega⟩
    · subst hS; exact ond.filter _
    · subst hS; exact (List.mem_filter.mp ho).1
  have e2 : List.foldlM (turnKV (Ph (n - 1)) [7] (.nm 7) (.ix (.var 7) (.neg (.int 1))) (.bl true) [some (encH h), some (encW x), some (.int (j : Int)), some (.list ((S.map fun o => [o]).map rowD)), none, none, none, none]) [] ((S.map fun o => [o]).map rowD) = some (S.map fun (o : Nat) => (PyData.int (o : Int), PyData.bool true)) := by
    rw [List.map_map]
    refine foldlM_dput (fun o : Nat => Sum.inl (o : Int)) (fun _ => .bool true) (e := rowD ∘ fun o => [o]) ?_ fun o ho acc => ?_
    · exact List.pairwise_map.mpr (List.Pairwise.imp (fun {a b} hab e => hab (by injection e with e; omega)) i0.nd)
    · have := at_last (l := [o]) (by simp)
      simp [lastN] at this
      simp [turnKV, rowD, this, keyOf]
  have t0 : Lnt h os x (S.map fun o => [o]) S := fun l hl => by
    obtain ⟨o, ho, rfl⟩ := List.mem_map.mp hl
    have ho2 := ho
    rw [← hS] at ho2
    exact ⟨⟨by simp, by simpa using (List.mem_filter.mp ho2).1, rfl, (List.mem_filter.mp ho2).2⟩, by simpa using ho⟩
  simp [d_lists_from, co, e1, e2, -List.map_map, Option.bind_assoc]
  refine goW_use (Z := fun (o : Option D) => ∃ nodes : List (List Nat), o = some (PyData.list (nodes.map rowD)) ∧ nodes.map lastN = bfs h.adj os [] os.length 0 S ∧ ∀ l ∈ nodes, (¬ l = [] ∧ lastN l < h.n) ∧ Pth h os x l) (k := os.length)
    (fun k ρ => ∃ (nodes : List (List Nat)) (q : List Nat) (a : Nat) (y z : Option D), ρ = [some (encH h), some (encW x), some (.int (j : Int)), some (.list (nodes.map rowD)), some (knownD q), some (.int (a : Int)), y, z] ∧ (Lns os nodes q ∧ Lnt h os x nodes q) ∧ a + k = os.length ∧ bfs h.adj os [] os.length 0 S = bfs h.adj os [] k a q)
    ⟨S.map fun o => [o], S, 0, none, none, rfl, ⟨i0, t0⟩, by omega, rfl⟩ (by omega) ?_
  rintro k ρ ⟨nodes, q, a, y, z, rfl, ⟨i, it⟩, hk, hb⟩
  have hl := i.len
  by_cases ha : a < q.length
  · obtain ⟨k, rfl⟩ : ∃ j, k = j + 1 := ⟨k - 1, by omega⟩
    have ha2 : ((a : Int) < (nodes.length : Int)) := by omega
    simp [ha2, co, Option.bind_assoc]
    have hb2 : bfs h.adj os [] (k + 1) a q = bfs h.adj os [] k (a + 1) (stepQ h.adj os [] a q) := by
      show (if a < q.length then _ else _) = _
      rw [if_pos ha]
    refine goF_foldE (Z := fun o => okF _ _ _ o) (as := os) (e := fun (o : Nat) => PyData.int (o : Int)) (σ := List (List Nat) × List Nat) (t := y)
      (fun st (t : Option D) => [some (encH h), some (encW x), some (.int (j : Int)), some (.list (st.1.map rowD)), some (knownD st.2), some (.int (a : Int)), t, z])
      (fun st o => if !st.2.contains o && h.adj (st.2.getD a 0) o then (st.1 ++ [st.1.getD a [] ++ [o]], st.2 ++ [o]) else st) (fun _ st => (Lns os st.1 st.2 ∧ Lnt h os x st.1 st.2) ∧ a < st.2.length) (s := (nodes, q)) ⟨⟨i, it⟩, ha⟩ (fun o rest st t ho hj => ?_) fun t hj => ?_
    · obtain ⟨nd, q⟩ := st
      obtain ⟨⟨hi, hti⟩, ha⟩ := hj
      simp only at hti
      simp only at hi ha ⊢
      have hl := hi.len
      have hline := atNodes nd a (by omega)
      have hmem : nd.getD a [] ∈ nd := by
        rw [List.getD_eq_getElem?_getD, List.getElem?_eq_getElem (by omega)]; exact List.getElem_mem _
      have hne := hi.ne _ hmem
      have hlast := at_last hne.1
      rw [getD_last nd q hi.last a (by omega)] at hlast
      have hqa : q.getD a 0 < h.n := by
        rw [List.getD_eq_getElem?_getD, List.getElem?_eq_getElem ha]
        exact olt _ (hi.sub _ (List.getElem_mem _))
      have cm := c_jobs_meet (n := n - 1) (by omega) g hqa (olt o ho)
      have hk := in_known o q
      have hadd : binD .add (rowD (nd.getD a [])) (.list [.int (o : Int)]) = some (rowD (nd.getD a [] ++ [o])) := by
        show binD .add (.list (natsD _)) (.list _) = _
        rw [add_list _ _ (by simp; have := hne.2; simp at this; omega)]
        simp [rowD]
      have hrow : ∀ l, ixD (rowD l) (.int (-1)) = atD (natsD l) (-1) := fun l => rfl
      cases hc : q.contains o with
      | true =>
        rw [hc] at hk
        simp only [hc, Bool.not_true, Bool.false_and, Bool.false_eq_true, if_false]
        refine ⟨⟨some (.int (o : Int)), ?_⟩, ⟨hi, hti⟩, ha⟩
        simp at hline hlast cm
        simp [hk, hline, hrow, hlast, cm]
      | false =>
        rw [hc] at hk
        cases had : h.adj (q.getD a 0) o with
        | false =>
          rw [had] at cm
          simp only [hc, had, Bool.not_false, Bool.true_and, Bool.false_eq_true, if_false]
          refine ⟨⟨some (.int (o : Int)), ?_⟩, ⟨hi, hti⟩, ha⟩
          simp at hline hlast cm
          simp [hk, hline, hrow, hlast, cm]
        | true =>
          rw [had] at cm
          simp only [hc, had, Bool.not_false, Bool.true_and, if_true]
          refine ⟨⟨some (.int (o : Int)), ?_⟩, ⟨hi.add ha ho hc, hti.add hi ha ho hc had⟩, by simp; omega⟩
          have hput := fun i ρ => putD_known (o := o) (q := q) hc (by omega) i ρ
          have hn5 : nd.length < 16777216 := by omega
          simp at hline hlast cm hadd
          simp [hk, hline, hrow, hlast, cm, hput, hadd, hn5]
    · have hf : ∀ (l : List Nat) (st : List (List Nat) × List Nat), (l.foldl (fun st o => if !st.2.contains o && h.adj (st.2.getD a 0) o then (st.1 ++ [st.1.getD a [] ++ [o]], st.2 ++ [o]) else st) st).2 = l.foldl (fun q o => if !([] ++ q).contains o && h.adj (q.getD a 0) o then q ++ [o] else q) st.2 := by
        intro l
        induction l with
        | nil => intro st; rfl
        | cons o l ih =>
          intro st
          rw [List.foldl_cons, List.foldl_cons, ih]
          congr 1
          rw [List.nil_append]
          split <;> rfl
      have hf2 := hf os (nodes, q)
      generalize os.foldl (fun (st : List (List Nat) × List Nat) o => if !st.2.contains o && h.adj (st.2.getD a 0) o then (st.1 ++ [st.1.getD a [] ++ [o]], st.2 ++ [o]) else st) (nodes, q) = st at hf2 hj ⊢
      obtain ⟨nd, q'⟩ := st
      simp
      refine ⟨nd, q', a + 1, ⟨rfl, rfl, by omega⟩, hj.1, by omega, ?_⟩
      rw [hb, hb2]
      have hf2 : q' = stepQ h.adj os [] a q := hf2
      rw [hf2]
  · have ha2 : ¬ ((a : Int) < (nodes.length : Int)) := by omega
    simp [ha2]
    refine ⟨nodes, rfl, ?_, fun l hl => ⟨⟨(i.ne l hl).1, olt _ (i.sub _ (by rw [← i.last]; exact List.mem_map.mpr ⟨l, hl, rfl⟩))⟩, (it l hl).1⟩⟩
    rw [hb, i.last]
    cases k with
    | zero => rfl
    | succ k => exact (if_neg ha).symm
end Q
set_option autoImplicit false
set_option linter.all false
set_option maxRecDepth 100000
set_option maxHeartbeats 4000000
namespace Q
open PySem
def reach (h : House) (j : Nat) (x : List Acc) : List Nat := bfs h.adj (others h.n j) [] (others h.n j).length 0 ((others h.n j).filter fun o => meet x (h.acc o))
theorem at_accs (xs : List (List Acc)) (i : Nat) (hi : i < xs.length) : atD (xs.map encW) (i : Int) = some (encW (xs.getD i [])) := by
  rw [atD_nat, List.getElem?_map, List.getElem?_eq_getElem hi, List.getD_eq_getElem?_getD, List.getElem?_eq_getElem hi]; rfl
structure CrossL (h : House) (j : Nat) (x y : List Acc) (l : List Nat) : Prop where
  ne : l ≠ []
  pth : Pth h (others h.n j) x l
  end_ : meet (h.acc (lastN l)) y = true
theorem c_crossing {n : Nat} (hn : 6 ≤ n) {h : House} (g : Good5 h) {xs : List (List Acc)} (hx : ∀ x ∈ xs, x.length ≤ 60) {j i k : Nat} (hi : i < xs.length) (hk : k < xs.length) :
    ∃ d, Ph n ("crossing" : Str) [encH h, .list (xs.map encW), .int (j : Int), .int (i : Int), .int (k : Int)] = some d ∧ isNoD d = !((reach h j (xs.getD i [])).any fun o => meet (h.acc o) (xs.getD k [])) ∧ (d = .none ∨ ∃ l, d = rowD l ∧ CrossL h j (xs.getD i []) (xs.getD k []) l) := by
  rw [run_eq (d := d_crossing) (by kernel_rfl) (by omega) _ rfl]
  have hxi : xs.getD i [] ∈ xs := by
    rw [List.getD_eq_getElem?_getD, List.getElem?_eq_getElem hi]; exact List.getElem_mem _
  have hxk : xs.getD k [] ∈ xs := by
    rw [List.getD_eq_getElem?_getD, List.getElem?_eq_getElem hk]; exact List.getElem_mem _
  obtain ⟨nodes, c1, c2, c3⟩ := c_lists_from (n := n - 1) (by omega) g (hx _ hxi) (j := j)
  have a1 := at_accs xs i hi
  have a2 := at_accs xs k hk
  have e : (reach h j (xs.getD i [])).any (fun o => meet (h.acc o) (xs.getD k [])) = nodes.any fun l => meet (h.acc (lastN l)) (xs.getD k []) := by
    unfold reach
    rw [← c2, List.any_map]
    rfl
  rw [e]
  generalize xs.getD i [] = x at a1 c1 c3 ⊢
  generalize hy : xs.getD k [] = y at a2 hxk ⊢
  simp [d_crossing, a1, c1, Option.bind_assoc]
  refine goF_map (Z := fun (o : Option D) => ∃ d, o = some d ∧ isNoD d = (!nodes.any fun l => meet (h.acc (lastN l)) y) ∧ (d = .none ∨ ∃ l, d = rowD l ∧ CrossL h j x y l)) (e := rowD) (as := nodes)
    (fun rest ρ => ∃ z, ρ = [some (encH h), some (.list (xs.map encW)), some (.int (j : Int)), some (.int (i : Int)), some (.int (k : Int)), z] ∧ (∀ l ∈ rest, l ∈ nodes) ∧ (nodes.any fun l => meet (h.acc (lastN l)) y) = rest.any fun l => meet (h.acc (lastN l)) y) ⟨none, rfl, fun _ h => h, rfl⟩ ?_ ?_
  · rintro ρ ⟨z, rfl, _, e⟩
    rw [e]
    simp [isNoD]
  · rintro l rest ρ ⟨z, rfl, hs, e⟩
    obtain ⟨⟨l1, l2⟩, l3⟩ := c3 l (hs l (by simp))
    have cb := c_body_accesses (n := n - 1) (by omega) g l2
    have cm := c_do_meet (n := n - 1) (by omega) (g.acc (lastN l)) (hx _ hxk)
    have la := at_last l1
    have lr : ixD (rowD l) (.int (-1)) = atD (natsD l) (-1) := rfl
    cases q : meet (h.acc (lastN l)) y with
    | true =>
      rw [q] at cm
      simp [lr, la, cb, a2, cm]
      rw [e]
      simp [q]
      exact ⟨rfl, .inr ⟨l, rfl, l1, l3, q⟩⟩
    | false =>
      rw [q] at cm
      simp [lr, la, cb, a2, cm]
      refine ⟨fun m hm => hs m (by simp [hm]), ?_⟩
      rw [e]
      simp [q]
def isort (l : List Nat) : List Nat := l.mergeSort fun a b => decide (a ≤ b)
theorem le_int_d (a b : Int) : PySem.W.dataLe false id (.int a) (.int b) = decide (a ≤ b) := by
  have : PySem.W.dataLe false id (.int a) (.int b) = !PySem.W.dataLt (.int b) (.int a) := rfl
  rw [this, PySem.W.dataLt_int]
  by_cases h : b < a
  · simp [h, Int.not_le.mpr h]
  · simp [h, Int.not_lt.mp h]
theorem sorted_nats (l : List Nat) : biD .sorted (.list (natsD l)) = some (.list (natsD (isort l))) := by
  show (sortD (natsD l)).map PyData.list = _
  have h1 : alikeL (natsD l) = true := by
    unfold alikeL natsD
    simp [PySem.W.alike]
  have h2 : (natsD l).all sortO = true := by unfold natsD; simp [sortO]
  have h3 : (natsD l).all (okD 60) = true := by unfold natsD; simp [okD]
  unfold sortD gate
  rw [h1, h2, h3]
  simp
  show (natsD l).mergeSort _ = natsD (l.mergeSort _)
  unfold natsD
  rw [List.map_mergeSort]
  intro a _ b _
  rw [le_int_d]
  simp
end Q
set_option autoImplicit false
set_option linter.all false
set_option maxRecDepth 100000
set_option maxHeartbeats 4000000
namespace Q
open PySem
def partStep (adj : Nat → Nat → Bool) (os : List Nat) (st : List (List Nat) × List Nat) (o : Nat) : List (List Nat) × List Nat :=
  if st.2.contains o then st else (st.1 ++ [isort (bfs adj os st.2 os.length 0 [o])], st.2 ++ bfs adj os st.2 os.length 0 [o])
def parts (adj : Nat → Nat → Bool) (os : List Nat) : List (List Nat) := (os.foldl (partStep adj os) ([], [])).1
structure Kq (os kn q : List Nat) : Prop where
  nd : (kn ++ q).Nodup
  sub : ∀ o ∈ kn ++ q, o ∈ os
theorem Kq.len {os kn q : List Nat} (i : Kq os kn q) : kn.length + q.length ≤ os.length := by
  have := L2.nat_nodup_len (kn ++ q) os i.nd i.sub
  rwa [List.length_append] at this
theorem Kq.add {os kn q : List Nat} (i : Kq os kn q) {o : Nat} (ho : o ∈ os) (h : (kn ++ q).contains o = false) : Kq os kn (q ++ [o]) := by
  refine ⟨?_, fun x hx => ?_⟩
  · rw [← List.append_assoc, List.nodup_append]
    refine ⟨i.nd, by simp, fun x hx y hy => ?_⟩
    have : y = o := by simpa using hy
    subst this
    intro e
    subst e
    have : (kn ++ q).contains x = true := by rw [List.contains_iff_mem]; exact hx
    rw [this] at h
    cases h
  · rw [← List.append_assoc] at hx
    rcases List.mem_append.mp hx with hx | hx
    · exact i.sub x hx
    · have : x = o := by simpa using hx
      subst this
      exact ho
theorem stepQ_kq {adj : Nat → Nat → Bool} {os kn q : List Nat} (a : Nat) (i : Kq os kn q) : Kq os kn (stepQ adj os kn a q) ∧ q.length ≤ (stepQ adj os kn a q).length := by
  unfold stepQ
  have gen : ∀ (l : List Nat) (q : List Nat), (∀ o ∈ l, o ∈ os) → Kq os kn q → Kq os kn (l.foldl (fun q o => if !(kn ++ q).contains o && adj (q.getD a 0) o then q ++ [o] else q) q) ∧ q.length ≤ (l.foldl (fun q o => if !(kn ++ q).contains o && adj (q.getD a 0) o then q ++ [o] else q) q).length := by
    intro l
    induction l with
    | nil => intro q _ i; exact ⟨i, Nat.le_refl _⟩
    | cons o l ih =>
      intro q hl i
      rw [List.foldl_cons]
      by_cases c : (!(kn ++ q).contains o && adj (q.getD a 0) o) = true
      · rw [if_pos c]
        have c1 : (kn ++ q).contains o = false := by
          have := (Bool.and_eq_true_iff.mp c).1
          simpa using this
        obtain ⟨h1, h2⟩ := ih (q ++ [o]) (fun o ho => hl o (by simp [ho])) (i.add (hl o (by simp)) c1)
        refine ⟨h1, ?_⟩
        rw [List.length_append] at h2
        omega
      · rw [if_neg c]
        exact ih q (fun o ho => hl o (by simp [ho])) i
  exact gen os q (fun _ h => h) i
theorem bfs_kq {adj : Nat → Nat → Bool} {os kn : List Nat} : ∀ (f a : Nat) (q : List Nat), Kq os kn q → Kq os kn (bfs adj os kn f a q) ∧ q.length ≤ (bfs adj os kn f a q).length := by
  intro f
  induction f with
  | zero => intro a q i; exact ⟨i, Nat.le_refl _⟩
  | succ f ih =>
    intro a q i
    show Kq os kn (if a < q.length then _ else q) ∧ _ ≤ (if a < q.length then _ else q).length
    split
    · obtain ⟨h1, h2⟩ := stepQ_kq (adj := adj) a i
      obtain ⟨h3, h4⟩ := ih (a + 1) _ h1
      exact ⟨h3, by omega⟩
    · exact ⟨i, Nat.le_refl _⟩
theorem knD (q : List Nat) : PyData.dict [] = knownD [] := rfl
theorem rowD_ix (l : List Nat) (k : Nat) (hk : k < l.length) : ixD (rowD l) (.int (k : Int)) = some (.int (l.getD k 0 : Nat)) := at_nats l k hk
theorem c_parts_without {n : Nat} (hn : 5 ≤ n) {h : House} (g : Good5 h) {j : Nat} : Ph n ("parts_without" : Str) [encH h, .int (j : Int)] = some (.list ((parts h.adj (others h.n j)).map rowD)) := by
  rw [run_eq (d := d_parts_without) (by kernel_rfl) (by omega) _ rfl]
  have co := c_other_jobs (n := n - 1) (by omega) g.n j
  unfold parts
  generalize hos : others h.n j = os at co ⊢
  have olt : ∀ o ∈ os, o < h.n := fun o ho => by subst hos; exact others_lt ho
  have olen : os.length ≤ 5 := by subst hos; exact Nat.le_trans (others_len _ _) g.n
  simp [d_parts_without, co, Option.bind_assoc]
  rw [knD []]
  refine goF_foldE (Z := fun (o : Option D) => o = some (.list ((os.foldl (partStep h.adj os) ([], [])).1.map rowD))) (as := os) (e := fun (o : Nat) => PyData.int (o : Int)) (σ := List (List Nat) × List Nat) (t := ((none, none, none, none) : Option D × Option D × Option D × Option D))
    (fun st t => [some (encH h), some (.int (j : Int)), some (.list (st.1.map rowD)), some (knownD st.2), t.1, t.2.1, t.2.2.1, t.2.2.2]) (partStep h.adj os) (fun _ st => Kq os st.2 [] ∧ st.1.length ≤ st.2.length) (s := ([], [])) ⟨⟨by simp, by simp⟩, by simp⟩ (fun o rest st t ho hj => ?_) fun t hj => ?_
  · obtain ⟨found, kn⟩ := st
    obtain ⟨t1, t2, t3, t4⟩ := t
    obtain ⟨hi, hfl⟩ := hj
    simp only at hi hfl ⊢
    have hk := in_known o kn
    cases hc : kn.contains o with
    | true =>
      rw [hc] at hk
      have hp : partStep h.adj os (found, kn) o = (found, kn) := by
        unfold partStep
        simp only [hc, if_true]
      rw [hp]
      exact ⟨⟨(some (.int (o : Int)), t2, t3, t4), by simp [hk]⟩, hi, hfl⟩
    | false =>
      rw [hc] at hk
      have hp : partStep h.adj os (found, kn) o = (found ++ [isort (bfs h.adj os kn os.length 0 [o])], kn ++ bfs h.adj os kn os.length 0 [o]) := by
        unfold partStep
        simp only [hc, Bool.false_eq_true, if_false]
      have hkl := hi.len
      have i0 : Kq os kn [o] := hi.add ho (by rw [List.append_nil]; exact hc)
      obtain ⟨b1, b2⟩ := bfs_kq (adj := h.adj) os.length 0 [o] i0
      have b3 := b1.len
      have b4 : 1 ≤ (bfs h.adj os kn os.length 0 [o]).length := b2
      rw [hp]
      refine ⟨?_, ⟨by rw [List.append_nil]; exact b1.nd, by rw [List.append_nil]; exact b1.sub⟩, by simp; omega⟩
      have hput := fun i ρ => putD_known (o := o) (q := kn) hc (by simp at hkl; omega) i ρ
      simp [hk, hput, Option.bind_assoc]
      refine goW_use (Z := fun (r : Option R) => ∃ a a1 a2 b, r = some (R.nx [some (encH h), some (.int (j : Int)), some (.list (found.map rowD ++ [rowD (isort (bfs h.adj os kn os.length 0 [o]))])), some (knownD (kn ++ bfs h.adj os kn os.length 0 [o])), a, a1, a2, b])) (k := os.length)
        (fun k ρ => ∃ (q : List Nat) (a : Nat) (y : Option D), ρ = [some (encH h), some (.int (j : Int)), some (.list (found.map rowD)), some (knownD (kn ++ q)), some (.int (o : Int)), some (rowD q), some (.int (a : Int)), y] ∧ Kq os kn q ∧ a + k = os.length ∧ bfs h.adj os kn os.length 0 [o] = bfs h.adj os kn k a q)
        ⟨[o], 0, t4, rfl, i0, by omega, rfl⟩ (by omega) ?_
      rintro k ρ ⟨q, a, y, rfl, i, hak, hb⟩
      have hl := i.len
      have lenr : ∀ l, biD .len (rowD l) = some (.int ((l.length : Nat) : Int)) := fun l => by simp [rowD]
      by_cases ha : a < q.length
      · obtain ⟨k, rfl⟩ : ∃ j, k = j + 1 := ⟨k - 1, by omega⟩
        have ha2 : ((a : Int) < (q.length : Int)) := by omega
        simp [lenr, ha2, co, Option.bind_assoc]
        have hb2 : bfs h.adj os kn (k + 1) a q = bfs h.adj os kn k (a + 1) (stepQ h.adj os kn a q) := by
          show (if a < q.length then _ else _) = _
          rw [if_pos ha]
        refine goF_foldE (Z := fun r => okF _ _ _ r) (as := os) (e := fun (o : Nat) => PyData.int (o : Int)) (t := y)
          (fun (q : List Nat) (t : Option D) => [some (encH h), some (.int (j : Int)), some (.list (found.map rowD)), some (knownD (kn ++ q)), some (.int (o : Int)), some (rowD q), some (.int (a : Int)), t])
          (fun q o => if !(kn ++ q).contains o && h.adj (q.getD a 0) o then q ++ [o] else q) (fun _ q => Kq os kn q ∧ a < q.length) (s := q) ⟨i, ha⟩ (fun p rest q t hpo hj => ?_) fun t hj => ?_
        · obtain ⟨hi, ha⟩ := hj
          have hl := hi.len
          have hk := in_known p (kn ++ q)
          have hix := rowD_ix q a ha
          have hix2 := at_nats q a ha
          have hqa : q.getD a 0 < h.n := by
            rw [List.getD_eq_getElem?_getD, List.getElem?_eq_getElem ha]
            exact olt _ (hi.sub _ (List.mem_append_right _ (List.getElem_mem _)))
          have cm := c_jobs_meet (n := n - 1) (by omega) g hqa (olt p hpo)
          cases hc : (kn ++ q).contains p with
          | true =>
            rw [hc] at hk
            simp only [Bool.not_true, Bool.false_and, Bool.false_eq_true, if_false]
            refine ⟨⟨some (.int (p : Int)), ?_⟩, hi, ha⟩
            simp at hix cm
            simp [hk, hix, cm]
          | false =>
            rw [hc] at hk
            cases had : h.adj (q.getD a 0) p with
            | false =>
              rw [had] at cm
              simp only [Bool.not_false, Bool.true_and, Bool.false_eq_true, if_false]
              refine ⟨⟨some (.int (p : Int)), ?_⟩, hi, ha⟩
              simp at hix cm
              simp [hk, hix, cm]
            | true =>
              rw [had] at cm
              simp only [Bool.not_false, Bool.true_and, if_true]
              refine ⟨⟨some (.int (p : Int)), ?_⟩, hi.add hpo hc, by simp; omega⟩
              have hput := fun i ρ => putD_known (o := p) (q := kn ++ q) hc (by rw [List.length_append]; omega) i ρ
              have hq5 : q.length < 16777216 := by omega
              simp at hix hix2 cm
              simp [hk, hix, hix2, cm, hput, rowD, hq5]
        · have hq' : os.foldl (fun q o => if !(kn ++ q).contains o && h.adj (q.getD a 0) o then q ++ [o] else q) q = stepQ h.adj os kn a q := rfl
          rw [hq'] at hj ⊢
          generalize stepQ h.adj os kn a q = q' at hj hb2 ⊢
          simp
          refine ⟨q', a + 1, ⟨rfl, rfl, by omega⟩, hj.1, by omega, ?_⟩
          rw [hb, hb2]
      · have ha2 : ¬ ((a : Int) < (q.length : Int)) := by omega
        have hbq : bfs h.adj os kn os.length 0 [o] = q := by
          rw [hb]
          cases k with
          | zero => rfl
          | succ k => exact if_neg ha
        have hn5 : found.length < 16777216 := by simp at hkl; omega
        have hs := sorted_nats q
        simp [lenr, ha2, rowD, hs, hn5, hbq]
  · simp
end Q
set_option autoImplicit false
set_option linter.all false
set_option maxRecDepth 100000
set_option maxHeartbeats 4000000
namespace Q
open PySem
def okG {τ : Type} (ρ : τ → Env) (b : Bool) (Wd : D → Prop) (o : Option R) : Prop := (b = true ∧ ∃ t, o = some (.nx (ρ t))) ∨ (b = false ∧ ∃ w, Wd w ∧ o = some (.rt w))
theorem goF_find {β : Type} {p : P} {body : Env → Option R} {K : R → Option β} {Z : Option β → Prop} {α τ : Type} {e : α → D} {as : List α} (ρ : τ → Env) (P : α → Bool) (Wd : α → D → Prop) {t : τ}
    (hb : ∀ a ∈ as, ∀ t, okG ρ (P a) (Wd a) ((bindP p (e a) (ρ t)).bind body))
    (h1 : ∀ t, as.all P = true → Z (K (.nx (ρ t)))) (h2 : ∀ pre a post w, as = pre ++ a :: post → pre.all P = true → P a = false → Wd a w → Z (K (.rt w))) : Z ((goF p body (as.map e) (ρ t)).bind K) := by
  induction as generalizing t with
  | nil => exact h1 t rfl
  | cons a as ih =>
    rw [List.map_cons]
    unfold goF
    rcases hb a (by simp) t with ⟨q, t', h⟩ | ⟨q, w, hw, h⟩
    · rw [← Option.bind_assoc, h, Option.bind_some]
      exact ih (fun a ha => hb a (by simp [ha])) (fun y hy => h1 y (by simp [q, hy])) fun pre b post w e1 e2 e3 e4 => h2 (a :: pre) b post w (by rw [e1]; rfl) (by simp [q, e2]) e3 e4
    · rw [← Option.bind_assoc, h, Option.bind_some]
      exact h2 [] a as w rfl rfl q hw
def crossP (h : House) (j : Nat) (xs : List (List Acc)) (i k : Nat) : Bool := (reach h j (xs.getD i [])).any fun o => meet (h.acc o) (xs.getD k [])
def xsOf (h : House) (c : List (List Nat)) (j : Nat) : List (List Acc) := (pieces (h.body j) (c.getD j [])).map accs
def crossX (h : House) (j : Nat) (xs : List (List Acc)) : Bool := (List.range xs.length).any fun i => (List.range (xs.length - (i + 1))).any fun k => crossP h j xs i (i + 1 + k)
def crossJ (h : House) (c : List (List Nat)) (j : Nat) : Bool := crossX h j (xsOf h c j)
structure Cuts (h : House) (c : List (List Nat)) : Prop where
  len : c.length = h.n
  le : ∀ j, ∀ p ∈ c.getD j [], p ≤ (h.body j).length
  few : ∀ j, (c.getD j []).length ≤ 100
theorem xs_len (h : House) (c : List (List Nat)) (j : Nat) : (xsOf h c j).length = (c.getD j []).length + 1 := by simp [xsOf, pieces]
theorem xs_60 {h : House} (g : Good5 h) (c : List (List Nat)) (j : Nat) : ∀ x ∈ xsOf h c j, x.length ≤ 60 := by
  intro x hx
  unfold xsOf pieces at hx
  obtain ⟨p, hp, rfl⟩ := List.mem_map.mp hx
  obtain ⟨k, _, rfl⟩ := List.mem_map.mp hp
  exact Nat.le_trans (accs_len _) (Nat.le_trans (piece_len _ _ _) (g.len j))
theorem accsL_eq (h : House) (c : List (List Nat)) (j : Nat) : accsL (pieces (h.body j) (c.getD j [])) = .list ((xsOf h c j).map encW) := by
  unfold accsL xsOf
  rw [List.map_map]
  rfl
def rightD (h : House) : D := .tuple [.str ("right" : Str), .list ((List.range h.n).map fun j => .list ((parts h.adj (others h.n j)).map rowD))]
def CrossW (h : House) (j : Nat) (xs : List (List Acc)) (d : D) : Prop := ∃ (i k : Nat) (l : List Nat), d = .tuple [.str ("crossed" : Str), .int (j : Int), .int (i : Int), .int (k : Int), rowD l] ∧ i < k ∧ k < xs.length ∧ CrossL h j (xs.getD i []) (xs.getD k []) l
def paperOk (h : House) (c : List (List Nat)) (d : D) : Prop :=
  ((∀ j, j < h.n → crossJ h c j = false) ∧ d = rightD h) ∨ ∃ j, j < h.n ∧ crossJ h c j = true ∧ (∀ j', j' < j → crossJ h c j' = false) ∧ CrossW h j (xsOf h c j) d
theorem rng_mid (i len : Nat) (hl : len ≤ 1000) (hi : i < len) : rngD ((i : Int) + 1) (len : Int) = some ((List.range (len - (i + 1))).map fun k => .int ((i + 1 + k : Nat) : Int)) := by
  have := rng_nat2 (i + 1) len (by omega) (by omega)
  rw [← this]
  congr 1
theorem rg_mid (i len : Nat) (hl : len ≤ 1000) (hi : i < len) : rg2D (.int ((i : Int) + 1)) (some (.int (len : Int))) = some (.list ((List.range (len - (i + 1))).map fun k => .int ((i + 1 + k : Nat) : Int))) := by
  rw [rg2D_int, Option.bind_some, rgD_int, rng_mid i len hl hi]
  rfl
theorem range_split {n j : Nat} {pre post : List Nat} (e : List.range n = pre ++ j :: post) : j = pre.length ∧ ∀ k, k < j → k ∈ pre := by
  have hl := congrArg List.length e
  simp at hl
  have h1 : j = pre.length := by
    have := congrArg (fun l => l[pre.length]?) e
    simp at this
    rw [List.getElem?_range (by omega)] at this
    exact (Option.some.inj this).symm
  refine ⟨h1, fun k hk => ?_⟩
  have : (List.range n)[k]? = (pre ++ j :: post)[k]? := congrArg (fun l => l[k]?) e
  rw [List.getElem?_range (by omega), List.getElem?_append_left (by omega)] at this
  exact List.mem_of_getElem? this.symm
theorem c_cuts_paper {n : Nat} (hn : 8 ≤ n) {h : House} (g : Good5 h) {c : List (List Nat)} (hc : Cuts h c) : ∃ d, Ph n ("cuts_paper" : Str) [encH h, cutsD c] = some d ∧ paperOk h c d := by
  rw [run_eq (d := d_cuts_paper) (by kernel_rfl) (by omega) _ rfl]
  have hjl : h.jobs.length = h.n := rfl
  have hn5 := g.n
  simp -implicitDefEqProofs [d_cuts_paper, hjl, rng_nat h.n (by omega), Option.bind_assoc]
  refine goF_find (Z := fun (o : Option D) => ∃ d, o = some d ∧ paperOk h c d) (t := ((none, none, none, none, none) : Option D × Option D × Option D × Option D × Option D))
    (fun t => [some (encH h), some (cutsD c), t.1, t.2.1, t.2.2.1, t.2.2.2.1, t.2.2.2.2]) (fun j : Nat => !crossJ h c j) (fun j w => CrossW h j (xsOf h c j) w) (fun j hj t => ?_) (fun t hall => ?_) fun pre j post w e1 e2 e3 e4 => ?_
  · have hj : j < h.n := by simpa using hj
    have cp := c_piece_accesses (n := n - 1) (by omega) g hj (by rw [hc.len]; exact hj) (hc.le j) (by have := hc.few j; omega)
    rw [accsL_eq] at cp
    have hx60 := xs_60 g c j
    have hxl : (xsOf h c j).length ≤ 101 := by have := hc.few j; rw [xs_len]; omega
    unfold crossJ
    generalize xsOf h c j = xs at cp hx60 hxl ⊢
    obtain ⟨t1, t2, t3, t4, t5⟩ := t
    simp -implicitDefEqProofs [cp, rng_nat xs.length (by omega), Option.bind_assoc]
    refine goF_find (Z := okG _ _ _) (t := ((t3, t4, t5) : Option D × Option D × Option D)) (fun t => [some (encH h), some (cutsD c), some (.int (j : Int)), some (.list (xs.map encW)), t.1, t.2.1, t.2.2])
      (fun i : Nat => !(List.range (xs.length - (i + 1))).any fun k => crossP h j xs i (i + 1 + k)) (fun i w => CrossW h j xs w) (fun i hi t => ?_) (fun t hall => ?_) fun pre i post w e1 e2 e3 e4 => ?_
    · have hi : i < xs.length := by simpa using hi
      obtain ⟨t1, t2, t3⟩ := t
      have hrg : rg2D (.int ((i : Int) + 1)) (some (.int (xs.length : Int))) = some (.list ((List.range (xs.length - (i + 1))).map fun k => .int ((i + 1 + k : Nat) : Int))) := rg_mid i xs.length (by omega) hi
      simp -implicitDefEqProofs [hrg, -rg2D_int, Option.bind_assoc]
      refine goF_find (Z := okG _ _ _) (t := ((t2, t3) : Option D × Option D)) (fun t => [some (encH h), some (cutsD c), some (.int (j : Int)), some (.list (xs.map encW)), some (.int (i : Int)), t.1, t.2])
        (fun k : Nat => !crossP h j xs i (i + 1 + k)) (fun k w => CrossW h j xs w) (fun k hk t => ?_) (fun t hall => ?_) fun pre k post w e1 e2 e3 e4 => ?_
      · have hk : k < xs.length - (i + 1) := by simpa using hk
        obtain ⟨d, d1, d2, d3⟩ := c_crossing (n := n - 1) (by omega) g hx60 (j := j) hi (show i + 1 + k < xs.length by omega)
        have hcr : crossP h j xs i (i + 1 + k) = !isNoD d := by rw [d2, Bool.not_not]; rfl
        rw [hcr]
        simp at d1
        cases q : isNoD d with
        | true => exact .inl ⟨rfl, (_, _), by simp -implicitDefEqProofs [d1, q]; exact ⟨rfl, rfl⟩⟩
        | false =>
          rcases d3 with rfl | ⟨l, rfl, cl⟩
          · cases q
          · exact .inr ⟨rfl, _, ⟨i, i + 1 + k, l, rfl, by omega, by omega, cl⟩, by simp -implicitDefEqProofs [d1, q]⟩
      · refine .inl ⟨?_, (_, _, _), by simp; exact ⟨rfl, rfl, rfl⟩⟩
        simpa using hall
      · refine .inr ⟨?_, w, e4, by simp⟩
        rw [Bool.not_eq_false']
        rw [List.any_eq_true]
        exact ⟨k, by rw [e1]; simp, by simpa using e3⟩
    · refine .inl ⟨?_, (_, _, _, _, _), by simp; exact ⟨rfl, rfl, rfl, rfl, rfl⟩⟩
      unfold crossX
      simpa using hall
    · refine .inr ⟨?_, w, e4, by simp⟩
      rw [Bool.not_eq_false']
      unfold crossX
      rw [List.any_eq_true]
      exact ⟨i, by rw [e1]; simp, by simpa using e3⟩
  · have e1 : fmM (turnE (Ph (n - 1)) [2] (.nm 2) false .non (.call .frz ("parts_without" : Str) (.cons (.var 0) (.cons (.var 2) .nil))) [some (encH h), some (cutsD c), t.1, t.2.1, t.2.2.1, t.2.2.2.1, t.2.2.2.2]) ((List.range h.n).map fun (k : Nat) => PyData.int (k : Int)) = some ((List.range h.n).map fun j => .list ((parts h.adj (others h.n j)).map rowD)) := by
      refine fmM_all (fun j : Nat => PyData.list ((parts h.adj (others h.n j)).map rowD)) fun j hj => ?_
      have c1 := c_parts_without (n := n - 1) (by omega) g (j := j)
      simp -implicitDefEqProofs [turnE, c1]
    simp -implicitDefEqProofs [hjl, rng_nat h.n (by omega), e1]
    refine .inl ⟨fun j hj => ?_, rfl⟩
    have := List.all_eq_true.mp hall j (by simpa using hj)
    simpa using this
  · simp
    refine .inr ⟨j, ?_, by simpa using e3, fun j' hj' => ?_, e4⟩
    · have : j ∈ List.range h.n := by rw [e1]; simp
      simpa using this
    · obtain ⟨p1, p2⟩ := range_split e1
      have := List.all_eq_true.mp e2 j' (p2 j' (by omega))
      simpa using this
end Q
set_option autoImplicit false
set_option linter.all false
set_option maxRecDepth 100000
set_option maxHeartbeats 4000000
namespace Q
open PySem
theorem isort_mem {l : List Nat} {o : Nat} : o ∈ isort l ↔ o ∈ l := List.mem_mergeSort
theorem isort_len (l : List Nat) : (isort l).length = l.length := List.length_mergeSort l
theorem parts_ok {adj : Nat → Nat → Bool} {os : List Nat} (hos : os.Nodup) : (parts adj os).length ≤ os.length ∧ ∀ l ∈ parts adj os, (∀ o ∈ l, o ∈ os) ∧ l ≠ [] ∧ l.length ≤ os.length := by
  have gen : ∀ (rest : List Nat) (st : List (List Nat) × List Nat), (∀ o ∈ rest, o ∈ os) → Kq os st.2 [] → st.1.length ≤ st.2.length → (∀ l ∈ st.1, (∀ o ∈ l, o ∈ os) ∧ l ≠ [] ∧ l.length ≤ os.length) →
      (rest.foldl (partStep adj os) st).1.length ≤ os.length ∧ ∀ l ∈ (rest.foldl (partStep adj os) st).1, (∀ o ∈ l, o ∈ os) ∧ l ≠ [] ∧ l.length ≤ os.length := by
    intro rest
    induction rest with
    | nil =>
      intro st _ hk hl ha
      have := hk.len
      simp at this
      exact ⟨by show st.1.length ≤ _; omega, ha⟩
    | cons o rest ih =>
      intro st hr hk hl ha
      rw [List.foldl_cons]
      by_cases c : st.2.contains o = true
      · have : partStep adj os st o = st := if_pos c
        rw [this]
        exact ih st (fun o ho => hr o (by simp [ho])) hk hl ha
      · have e : partStep adj os st o = (st.1 ++ [isort (bfs adj os st.2 os.length 0 [o])], st.2 ++ bfs adj os st.2 os.length 0 [o]) := if_neg c
        rw [e]
        have i0 : Kq os st.2 [o] := hk.add (hr o (by simp)) (by rw [List.append_nil]; simpa using c)
        obtain ⟨b1, b2⟩ := bfs_kq (adj := adj) os.length 0 [o] i0
        have b3 := b1.len
        have b4 : 1 ≤ (bfs adj os st.2 os.length 0 [o]).length := b2
        refine ih _ (fun o ho => hr o (by simp [ho])) ⟨by rw [List.append_nil]; exact b1.nd, by rw [List.append_nil]; exact b1.sub⟩ (by simp; omega) fun l hl2 => ?_
        rcases List.mem_append.mp hl2 with h | h
        · exact ha l h
        · have : l = isort (bfs adj os st.2 os.length 0 [o]) := by simpa using h
          subst this
          refine ⟨fun x hx => b1.sub x (List.mem_append_right _ (isort_mem.mp hx)), ?_, ?_⟩
          · intro z
            have := congrArg List.length z
            rw [isort_len] at this
            simp at this
            rw [this] at b4
            simp at b4
          · rw [isort_len]; omega
  exact gen os ([], []) (fun _ h => h) ⟨by simp, by simp⟩ (by simp) (by simp)
theorem parts_lt {h : House} {j : Nat} {l : List Nat} (hl : l ∈ parts h.adj (others h.n j)) : ∀ o ∈ l, o < h.n := fun o ho => others_lt (((parts_ok (others_nd _ _)).2 l hl).1 o ho)
def placesHit (h : House) (j : Nat) (l : List Nat) : List Nat := (List.range (h.body j).length).filter fun k => hitL h (accS ((h.body j).getD k (.ot ("" : Str) []))) l
def spanOf : List Nat → Option (Nat × Nat)
  | [] => none
  | p :: r => some (p, lastN (p :: r))
def spans (h : House) (j : Nat) : List (Nat × Nat) := (parts h.adj (others h.n j)).filterMap fun l => spanOf (placesHit h j l)
def spanD (s : Nat × Nat) : D := .tuple [.int (s.1 : Int), .int (s.2 : Int)]
theorem accs_one (s : St) : accs [s] = accS s := by simp [accs]
end Q
set_option autoImplicit false
set_option linter.all false
set_option maxRecDepth 100000
set_option maxHeartbeats 4000000
namespace Q
open PySem
def barred (sp : List (Nat × Nat)) (a : Nat) : Bool := sp.any fun s => decide (s.1 < a) && decide (a ≤ s.2)
def freeOf (len : Nat) (sp : List (Nat × Nat)) : List Nat := ((List.range (len - 1)).map fun k => k + 1).filter fun a => !barred sp a
def finest (h : House) : List (List Nat) := (List.range h.n).map fun j => freeOf (h.body j).length (spans h j)
theorem spans_len {h : House} (g : Good5 h) (j : Nat) : (spans h j).length ≤ 5 := Nat.le_trans (List.length_filterMap_le ..) (Nat.le_trans (parts_ok (others_nd _ _)).1 (Nat.le_trans (others_len _ _) g.n))
theorem fm_any {α : Type} (l : List α) (p : α → Bool) (e : α → D) : decide (((l.filterMap fun a => if p a then some (e a) else none).length : Int) = 0) = !l.any p := by
  induction l with
  | nil => rfl
  | cons a l ih =>
    cases q : p a
    · simp [q]; simpa using ih
    · simp [q]; omega
end Q
set_option autoImplicit false
set_option linter.all false
set_option maxRecDepth 100000
set_option maxHeartbeats 4000000
namespace Q
open PySem
def ltL : List Nat → List Nat → Bool
  | [], [] => false
  | [], _ :: _ => true
  | _ :: _, [] => false
  | a :: x, b :: y => if a = b then ltL x y else decide (a < b)
def leL (x y : List Nat) : Bool := !ltL y x
theorem lt_rows : ∀ x y : List Nat, PyProof.Rows.lexLt PyProof.Rows.itemOrd (PySem.W.keyToksAll (natsD x)) (PySem.W.keyToksAll (natsD y)) = ltL x y := by
  intro x
  induction x with
  | nil =>
    intro y
    cases y with
    | nil => simp [natsD, ltL, PySem.W.keyToksAll]; rfl
    | cons b y => simp [ltL, PySem.W.keyToksAll]; rfl
  | cons a x ih =>
    intro y
    cases y with
    | nil => simp [ltL, PySem.W.keyToksAll]; rfl
    | cons b y =>
      rw [nats_cons, nats_cons, PySem.W.dataLt_cons rfl, ih, PySem.W.dataLt_int]
      rw [show ltL (a :: x) (b :: y) = if a = b then ltL x y else decide (a < b) from by simp only [ltL]]
      by_cases q : a = b
      · subst q
        simp [PyData.eqv]
      · have q2 : ¬ ((a : Int) = (b : Int)) := by omega
        simp [q, q2, PyData.eqv]
theorem le_rows (x y : List Nat) : PySem.W.dataLe false id (rowD x) (rowD y) = leL x y := by
  have : PySem.W.dataLe false id (rowD x) (rowD y) = !PySem.W.dataLt (rowD y) (rowD x) := rfl
  rw [this]
  show (!PySem.W.dataLt (.list (natsD y)) (.list (natsD x))) = _
  rw [PySem.W.dataLt_list, lt_rows]
  rfl
theorem alike_nats : ∀ x y : List Nat, PySem.W.alikeAll (natsD x) (natsD y) = true := by
  intro x
  induction x with
  | nil => intro y; simp [PySem.W.alikeAll]
  | cons a x ih =>
    intro y
    cases y with
    | nil => simp [PySem.W.alikeAll]
    | cons b y => simp [PySem.W.alikeAll, PySem.W.alike, ih]
def rsort (ps : List (List Nat)) : List (List Nat) := ps.mergeSort leL
theorem okD_row (l : List Nat) : okD 60 (rowD l) = true := by
  show (natsD l).all (okD 59) = true
  unfold natsD
  simp [okD]
theorem sorted_rows (ps : List (List Nat)) : biD .sorted (.list (ps.map rowD)) = some (.list ((rsort ps).map rowD)) := by
  show (sortD (ps.map rowD)).map PyData.list = _
  have h1 : alikeL (ps.map rowD) = true := by
    unfold alikeL
    simp only [List.all_map, List.all_eq_true, Function.comp]
    intro x _ y _
    show PySem.W.alike (.list (natsD x)) (.list (natsD y)) = true
    simp only [PySem.W.alike]
    exact alike_nats x y
  have h2 : (ps.map rowD).all sortO = true := by simp [rowD, sortO]
  have h3 : (ps.map rowD).all (okD 60) = true := by
    simp only [List.all_map, List.all_eq_true, Function.comp]
    intro x _
    exact okD_row x
  unfold sortD gate
  rw [h1, h2, h3]
  simp
  unfold rsort
  rw [List.map_mergeSort]
  intro a _ b _
  exact (le_rows a b).symm
theorem c_is_index {n : Nat} (hn : 2 ≤ n) (o s : Nat) : Ph n ("is_index" : Str) [.int (o : Int), .int (s : Int)] = some (.bool (decide (o < s))) := by
  rw [run_eq (d := d_is_index) (by kernel_rfl) (by omega) _ rfl]
  have c := c_is_number (n := n - 1) (by omega) (.int (o : Int)) rfl
  have h0 : (0 : Int) ≤ (o : Int) := by omega
  by_cases q : o < s
  · have q2 : (o : Int) < (s : Int) := by omega
    simp -implicitDefEqProofs [d_is_index, c, isNum, h0, q, q2]
  · have q2 : ¬ (o : Int) < (s : Int) := by omega
    simp -implicitDefEqProofs [d_is_index, c, isNum, h0, q, q2]
theorem c_is_indexes {n : Nat} (hn : 3 ≤ n) {l : List Nat} {s : Nat} (ha : l.Pairwise (· < ·)) (hl : ∀ o ∈ l, o < s) : Ph n ("is_indexes" : Str) [rowD l, .int (s : Int)] = some (.bool true) := by
  rw [run_eq (d := d_is_indexes) (by kernel_rfl) (by omega) _ rfl]
  have ir : isiD [.list] (rowD l) = some (.bool true) := rfl
  have it : itemsD (rowD l) = some (natsD l) := rfl
  simp -implicitDefEqProofs [d_is_indexes, ir, it, Option.bind_assoc]
  refine goF_map (Z := fun (o : Option D) => o = some (.bool true)) (as := l) (e := fun (o : Nat) => PyData.int (o : Int)) (fun rest ρ => ∃ (p : Int) (y : Option D), ρ = [some (rowD l), some (.int (s : Int)), some (.int p), y] ∧ (∀ o ∈ rest, p < (o : Int) ∧ o < s) ∧ rest.Pairwise (· < ·)) ⟨-1, none, rfl, fun o ho => ⟨by omega, hl o ho⟩, ha⟩ ?_ ?_
  · rintro ρ ⟨p, y, rfl, _, _⟩
    simp
  · rintro o rest ρ ⟨p, y, rfl, h1, h2⟩
    obtain ⟨h3, h4⟩ := List.pairwise_cons.mp h2
    obtain ⟨g1, g2⟩ := h1 o (by simp)
    have c := c_is_index (n := n - 1) (by omega) o s
    have q : ¬ (o : Int) ≤ p := by omega
    simp -implicitDefEqProofs [c, g2, q]
    exact ⟨fun x hx => ⟨by have := h3 x hx; omega, (h1 x (by simp [hx])).2⟩, h4⟩
end Q
set_option autoImplicit false
set_option linter.all false
set_option maxRecDepth 100000
set_option maxHeartbeats 4000000
namespace Q
open PySem
theorem eqv_self : ∀ (n : Nat) (d : D), okD n d = true → PyData.eqv d d = true := by
  intro n
  induction n with
  | zero => intro d h; cases d <;> first | (simp [okD] at h; done) | simp [PyData.eqv]
  | succ n ih =>
    have all : ∀ xs : List D, (∀ x ∈ xs, okD n x = true) → PyData.eqvAll xs xs = true := by
      intro xs
      induction xs with
      | nil => intro _; simp [PyData.eqvAll]
      | cons x xs ihx =>
        intro h
        rw [PyData.eqvAll, ih x (h x (by simp)), ihx fun y hy => h y (by simp [hy])]
        rfl
    intro d h
    cases d with
    | list xs => rw [PyData.eqv]; exact all xs (List.all_eq_true.mp h)
    | tuple xs => rw [PyData.eqv]; exact all xs (List.all_eq_true.mp h)
    | dict _ => simp [okD] at h
    | _ => simp [PyData.eqv]
theorem eqD_self {d : D} (h : okD 60 d = true) : eqD d d = some true := by rw [eqD_ok h h, eqv_self 60 d h]
theorem okD_nats (l : List Nat) : okD 60 (.list (natsD l)) = true := okD_row l
theorem okD_rows (ps : List (List Nat)) : okD 60 (.list (ps.map rowD)) = true := by
  show (ps.map rowD).all (okD 59) = true
  simp only [List.all_map, List.all_eq_true, Function.comp]
  intro x _
  show (natsD x).all (okD 58) = true
  unfold natsD
  simp [okD]
structure PartOk (n j : Nat) (ps : List (List Nat)) : Prop where
  row : ∀ l ∈ ps, l ≠ [] ∧ l.Pairwise (· < ·) ∧ ∀ o ∈ l, o < n
  all : isort ps.flatten = others n j
  ord : rsort ps = ps
  few : ps.flatten.length ≤ 5 ∧ ps.length ≤ 5
theorem c_is_parting {n : Nat} (hn : 4 ≤ n) {h : House} (g : Good5 h) {j : Nat} {ps : List (List Nat)} (hp : PartOk h.n j ps) : Ph n ("is_parting" : Str) [encH h, .int (j : Int), .list (ps.map rowD)] = some (.bool true) := by
  rw [run_eq (d := d_is_parting) (by kernel_rfl) (by omega) _ rfl]
  have co := c_other_jobs (n := n - 1) (by omega) g.n j
  have hjl : h.jobs.length = h.n := rfl
  have hfl := hp.few.1
  simp -implicitDefEqProofs [d_is_parting, isiD, isTy, Option.bind_assoc]
  refine goF_fold (Z := fun (o : Option D) => o = some (.bool true)) (as := ps) (e := rowD) (fun (st : List Nat) y => [some (encH h), some (.int (j : Int)), some (.list (ps.map rowD)), some (.list (natsD st)), y]) (fun st l => st ++ l) (fun rest st => st.length + rest.flatten.length ≤ 5) (s := []) (by simpa using hfl) (fun l rest st y hl hs => ?_) fun y hs => ?_
  · obtain ⟨h1, h2, h3⟩ := hp.row l hl
    have c := c_is_indexes (n := n - 1) (by omega) h2 h3
    have hs : st.length + (l.length + rest.flatten.length) ≤ 5 := by simpa using hs
    have lr : biD .len (rowD l) = some (.int (l.length : Int)) := by simp [rowD]
    have hl0 : ¬ ((l.length : Int) = 0) := by
      intro z
      exact h1 (List.length_eq_zero_iff.mp (by omega))
    refine ⟨?_, by rw [List.length_append]; omega⟩
    have hex : extD 3 [some (encH h), some (.int (j : Int)), some (.list (ps.map rowD)), some (.list (natsD st)), some (rowD l)] (rowD l) (some (.list (natsD st))) = some (.nx [some (encH h), some (.int (j : Int)), some (.list (ps.map rowD)), some (.list (natsD (st ++ l))), some (rowD l)]) := by
      have e1 : (natsD st).length + (natsD l).length ≤ SL := by rw [nats_len, nats_len, SL_eq]; omega
      show extD 3 _ (.list (natsD l)) _ = _
      rw [extD_list, if_pos e1]
      simp
    simp at hl0
    simp -implicitDefEqProofs [hjl, c, lr, hl0, hex]
  · have fl : ∀ (as : List (List Nat)) (st : List Nat), as.foldl (fun st l => st ++ l) st = st ++ as.flatten := by
      intro as
      induction as with
      | nil => intro st; simp
      | cons a as ih => intro st; simp [ih]
    have s1 := sorted_nats ps.flatten
    have s2 := sorted_rows ps
    rw [hp.all] at s1
    rw [hp.ord] at s2
    have q1 := eqD_self (okD_nats (others h.n j))
    have q2 := eqD_self (okD_rows ps)
    rw [fl ps [], List.nil_append]
    simp -implicitDefEqProofs [s1, s2, co, q1, q2]
structure RightOk (h : House) (c : List (List Nat)) (j : Nat) (ps : List (List Nat)) : Prop where
  part : PartOk h.n j ps
  one : ∀ l ∈ ps, ((xsOf h c j).countP fun x => hitL h x l) ≤ 1
  apart : ps.Pairwise fun l m => ∀ i ∈ l, ∀ k ∈ m, h.adj i k = false
theorem drop_rows (ps : List (List Nat)) (k : Nat) : slD (some ((k : Int) + 1)) none (.list (ps.map rowD)) = some (.list ((ps.drop (k + 1)).map rowD)) := by
  have e : ((k : Int) + 1) = ((k + 1 : Nat) : Int) := by omega
  rw [e]
  show some (PyData.list (cutD _ _ none)) = _
  unfold cutD
  rw [sIx_nat]
  have e2 : sIx (ps.map rowD).length (ps.map rowD).length none = ps.length := by simp [sIx]
  rw [e2, List.length_map, List.map_drop]
  by_cases q : k + 1 ≤ ps.length
  · rw [Nat.min_eq_left q, List.take_of_length_le (by simp)]
  · rw [Nat.min_eq_right (by omega), List.drop_eq_nil_of_le (by simp), List.drop_eq_nil_of_le (by simp; omega)]
    simp
theorem c_are_right_parts {n : Nat} (hn : 6 ≤ n) {h : House} (g : Good5 h) {c : List (List Nat)} (hc : Cuts h c) {j : Nat} (hj : j < h.n) {ps : List (List Nat)} (hr : RightOk h c j ps) : Ph n ("are_right_parts" : Str) [encH h, cutsD c, .int (j : Int), .list (ps.map rowD)] = some (.bool true) := by
  rw [run_eq (d := d_are_right_parts) (by kernel_rfl) (by omega) _ rfl]
  have cp := c_is_parting (n := n - 1) (by omega) g hr.part
  have cx := c_piece_accesses (n := n - 1) (by omega) g hj (by rw [hc.len]; exact hj) (hc.le j) (by have := hc.few j; omega)
  rw [accsL_eq] at cx
  have hx60 := xs_60 g c j
  have hone := hr.one
  generalize xsOf h c j = xs at cx hx60 hone
  have pl := hr.part.few.2
  simp -implicitDefEqProofs [d_are_right_parts, cp, cx, rng_nat ps.length (by omega), Option.bind_assoc]
  refine goF_foldE (Z := fun (o : Option D) => o = some (.bool true)) (as := List.range ps.length) (e := fun (k : Nat) => PyData.int (k : Int)) (t := ((none, none) : Option D × Option D)) (σ := Unit)
    (fun _ t => [some (encH h), some (cutsD c), some (.int (j : Int)), some (.list (ps.map rowD)), some (.list (xs.map encW)), t.1, t.2]) (fun s _ => s) (fun _ _ => True) (s := ()) trivial (fun k rest s t hk _ => ⟨?_, trivial⟩) fun t _ => ?_
  · have hk : k < ps.length := by simpa using hk
    obtain ⟨t1, t2⟩ := t
    have a1 : atD (ps.map rowD) (k : Int) = some (rowD ps[k]) := by
      rw [atD_nat, List.getElem?_map, List.getElem?_eq_getElem hk]; rfl
    have hm : ps[k] ∈ ps := List.getElem_mem hk
    have hlt := (hr.part.row _ hm).2.2
    have cm := c_pieces_met (n := n - 1) (by omega) g hx60 hlt
    have h1 := hone _ hm
    have cm : Ph (n - 1) (Str.ofString "pieces_met") [encH h, .list (xs.map encW), rowD ps[k]] = some (.int ((xs.countP fun x => hitL h x ps[k] : Nat) : Int)) := cm
    have h2 : ¬ ((1 : Int) < ((xs.countP fun x => hitL h x ps[k] : Nat) : Int)) := by omega
    have dr := drop_rows ps k
    simp -implicitDefEqProofs [a1, cm, h2, dr, Option.bind_assoc]
    rw [← List.map_drop]
    refine goF_foldE (Z := fun (r : Option R) => ∃ a b, r = some (.nx [some (encH h), some (cutsD c), some (.int (j : Int)), some (.list (ps.map rowD)), some (.list (xs.map encW)), a, b])) (as := ps.drop (k + 1)) (e := rowD) (t := t2) (σ := Unit)
      (fun _ t => [some (encH h), some (cutsD c), some (.int (j : Int)), some (.list (ps.map rowD)), some (.list (xs.map encW)), some (.int (k : Int)), t]) (fun s _ => s) (fun _ _ => True) (s := ()) trivial (fun m rest s t hm2 _ => ⟨?_, trivial⟩) fun t _ => ?_
    · have hm3 : m ∈ ps := List.mem_of_mem_drop hm2
      have hlt2 := (hr.part.row _ hm3).2.2
      have ca := c_are_apart (n := n - 1) (by omega) g hlt hlt2
      have hap : (ps[k].all fun i => m.all fun j => !h.adj i j) = true := by
        obtain ⟨i, hi, e⟩ := List.getElem_of_mem hm2
        rw [List.getElem_drop] at e
        have hi2 : k + 1 + i < ps.length := by rw [List.length_drop] at hi; omega
        have := List.pairwise_iff_getElem.mp hr.apart k (k + 1 + i) hk hi2 (by omega)
        rw [e] at this
        simp only [List.all_eq_true, Bool.not_eq_true']
        exact fun x hx y hy => this x hx y hy
      rw [hap] at ca
      have ca : Ph (n - 1) (Str.ofString "are_apart") [encH h, rowD ps[k], rowD m] = some (.bool true) := ca
      refine ⟨some (rowD m), ?_⟩
      simp -implicitDefEqProofs [a1, ca]
    · simp -implicitDefEqProofs
  · simp -implicitDefEqProofs
end Q
set_option autoImplicit false
set_option linter.all false
set_option maxRecDepth 100000
set_option maxHeartbeats 4000000
namespace Q
open PySem
def paperR (n : Nat) (pss : Nat → List (List Nat)) : D := .tuple [.str ("right" : Str), .list ((List.range n).map fun j => .list ((pss j).map rowD))]
theorem c_is_tagged {n : Nat} (hn : 1 ≤ n) (m : Nat) (pss : Nat → List (List Nat)) : Ph n ("is_tagged" : Str) [paperR m pss, .str ("right" : Str), .int 2] = some (.bool true) := by
  rw [run_eq (d := d_is_tagged) (by kernel_rfl) (by omega) _ rfl]
  simp -implicitDefEqProofs [d_is_tagged, paperR, isiD, isTy]
theorem c_shows_right_cuts {n : Nat} (hn : 7 ≤ n) {h : House} (g : Good5 h) {c : List (List Nat)} (hc : Cuts h c) {pss : Nat → List (List Nat)} (hr : ∀ j, j < h.n → RightOk h c j (pss j)) : Ph n ("shows_right_cuts" : Str) [encH h, cutsD c, paperR h.n pss] = some (.bool true) := by
  rw [run_eq (d := d_shows_right_cuts) (by kernel_rfl) (by omega) _ rfl]
  have ct := c_is_tagged (n := n - 1) (by omega) h.n pss
  have hjl : h.jobs.length = h.n := rfl
  have hn5 := g.n
  have i1 : ixD (paperR h.n pss) (.int 1) = some (.list ((List.range h.n).map fun j => .list ((pss j).map rowD))) := by simp [paperR]
  simp -implicitDefEqProofs [d_shows_right_cuts, ct, i1, isiD, isTy, hjl, rng_nat h.n (by omega), Option.bind_assoc]
  refine goF_foldE (Z := fun (o : Option D) => o = some (.bool true)) (as := List.range h.n) (e := fun (k : Nat) => PyData.int (k : Int)) (t := (none : Option D)) (σ := Unit)
    (fun _ t => [some (encH h), some (cutsD c), some (paperR h.n pss), t]) (fun s _ => s) (fun _ _ => True) (s := ()) trivial (fun k rest s t hk _ => ⟨?_, trivial⟩) fun t _ => ?_
  · have hk : k < h.n := by simpa using hk
    have a1 : atD ((List.range h.n).map fun j => PyData.list ((pss j).map rowD)) (k : Int) = some (.list ((pss k).map rowD)) := by
      rw [atD_nat, List.getElem?_map, List.getElem?_range hk]; rfl
    have ca := c_are_right_parts (n := n - 1) (by omega) g hc hk (hr k hk)
    refine ⟨some (.int (k : Int)), ?_⟩
    simp -implicitDefEqProofs [i1, a1, ca]
  · simp -implicitDefEqProofs
def bunchStep (adj : Nat → Nat → Bool) (found : List (List Nat)) (o : Nat) : List (List Nat) :=
  let met := found.filter fun b => b.any fun k => adj o k
  (found.filter fun b => !met.contains b) ++ [isort (met.foldl (fun j b => j ++ b) [o])]
def bunches (adj : Nat → Nat → Bool) (os : List Nat) : List (List Nat) := rsort (os.foldl (bunchStep adj) [])
def pairIx (a b : Nat) : Nat := if a = 0 then b - 1 else if a = 1 then b + 1 else 5
def adjB (os : List Nat) (b : Nat) (i j : Nat) : Bool := i != j && b.testBit (pairIx (min (os.idxOf i) (os.idxOf j)) (max (os.idxOf i) (os.idxOf j)))
def pwB (f : List Nat → List Nat → Bool) : List (List Nat) → Bool
  | [] => true
  | l :: r => r.all (f l) && pwB f r
def ascN : List Nat → Bool
  | a :: b :: r => decide (a < b) && ascN (b :: r)
  | _ => true
def graphOk (n j b : Nat) : Bool :=
  let os := others n j
  let adj := adjB os b
  let ps := parts adj os
  decide (bunches adj os = ps) && (ps.all (fun l => !l.isEmpty && (ascN l && l.all fun o => decide (o < n))) && (decide (isort ps.flatten = os) && (decide (rsort ps = ps) && (decide (ps.flatten.length ≤ 5) && (decide (ps.length ≤ 5) &&
    (pwB (fun l m => l.all fun i => m.all fun k => !adj i k) ps &&
    (List.range (2 ^ os.length)).all fun s =>
      let S := os.filter fun o => s.testBit (os.idxOf o)
      let q := bfs adj os [] os.length 0 S
      os.all fun o => q.contains o == ps.any fun l => l.contains o && l.any fun x => S.contains x))))))
theorem sorted_unique {α : Type} (r : α → α → Prop) (anti : ∀ a b, r a b → r b a → a = b) : ∀ l m : List α, l.Perm m → l.Pairwise r → m.Pairwise r → l = m := by
  intro l
  induction l with
  | nil => intro m p _ _; exact (List.Perm.nil_eq p)
  | cons a l ih =>
    intro m p h1 h2
    cases m with
    | nil => exact absurd p.symm.nil_eq (by simp)
    | cons b m =>
      obtain ⟨g1, g2⟩ := List.pairwise_cons.mp h1
      obtain ⟨k1, k2⟩ := List.pairwise_cons.mp h2
      have e : a = b := by
        rcases List.mem_cons.mp (p.mem_iff.mp (List.mem_cons_self (a := a) (l := l))) with e | e
        · exact e
        · rcases List.mem_cons.mp (p.mem_iff.mpr (List.mem_cons_self (a := b) (l := m))) with e2 | e2
          · exact e2.symm
          · exact anti a b (g1 b e2) (k1 a e)
      subst e
      rw [ih m (List.Perm.cons_inv p) g2 k2]
section
variable {α : Type} (le : α → α → Bool)
def insS (a : α) : List α → List α
  | [] => [a]
  | b :: r => if le a b then a :: b :: r else b :: insS a r
def sortS (l : List α) : List α := l.foldr (insS le) []
theorem ins_perm (a : α) : ∀ l, (insS le a l).Perm (a :: l)
  | [] => .refl _
  | b :: r => by
    unfold insS
    split
    · exact .refl _
    · exact ((ins_perm a r).cons b).trans (.swap a b r)
theorem sortS_perm : ∀ l, (sortS le l).Perm l
  | [] => .refl _
  | a :: l => (ins_perm le a _).trans ((sortS_perm l).cons a)
variable (trans : ∀ a b c, le a b = true → le b c = true → le a c = true) (total : ∀ a b, (le a b || le b a) = true)
include trans total
theorem ins_ord (a : α) : ∀ l, l.Pairwise (fun x y => le x y = true) → (insS le a l).Pairwise (fun x y => le x y = true)
  | [], _ => List.pairwise_singleton _ _
  | b :: r, h => by
    obtain ⟨h1, h2⟩ := List.pairwise_cons.mp h
    unfold insS
    by_cases c : le a b = true
    · rw [if_pos c]
      refine List.pairwise_cons.mpr ⟨fun y hy => ?_, h⟩
      rcases List.mem_cons.mp hy with e | e
      · subst e; exact c
      · exact trans _ _ _ c (h1 y e)
    · rw [if_neg c]
      refine List.pairwise_cons.mpr ⟨fun y hy => ?_, ins_ord a r h2⟩
      rcases List.mem_cons.mp ((ins_perm le a r).mem_iff.mp hy) with e | e
      · subst e
        have := total y b
        rw [Bool.or_eq_true] at this
        exact this.resolve_left c
      · exact h1 y e
theorem sortS_ord : ∀ l, (sortS le l).Pairwise (fun x y => le x y = true)
  | [] => List.Pairwise.nil
  | a :: l => ins_ord le trans total a _ (sortS_ord l)
theorem merge_eq (anti : ∀ a b, le a b = true → le b a = true → a = b) (l : List α) : l.mergeSort le = sortS le l :=
  sorted_unique (fun x y => le x y = true) anti _ _ ((List.mergeSort_perm l le).trans (sortS_perm le l).symm) (List.pairwise_mergeSort trans total l) (sortS_ord le trans total l)
end
theorem isort_eq (l : List Nat) : isort l = sortS (fun a b => decide (a ≤ b)) l := by
  refine merge_eq (fun a b : Nat => decide (a ≤ b)) (fun a b c h1 h2 => ?_) (fun a b => ?_) (fun a b h1 h2 => ?_) l
  · simp at h1 h2 ⊢; omega
  · simp; omega
  · simp at h1 h2; omega
theorem lt_asym : ∀ x y : List Nat, ltL x y = true → ltL y x = false := by
  intro x
  induction x with
  | nil => intro y h; cases y with
    | nil => rfl
    | cons b y => rfl
  | cons a x ih =>
    intro y h
    cases y with
    | nil => cases h
    | cons b y =>
      simp only [ltL] at h ⊢
      by_cases q : a = b
      · subst q; simp at h ⊢; exact ih y h
      · have q2 : ¬ b = a := fun z => q z.symm
        simp [q, q2] at h ⊢; omega
theorem lt_tri : ∀ x y : List Nat, ltL x y = false → ltL y x = false → x = y := by
  intro x
  induction x with
  | nil => intro y h1 h2; cases y with
    | nil => rfl
    | cons b y => cases h1
  | cons a x ih =>
    intro y h1 h2
    cases y with
    | nil => cases h2
    | cons b y =>
      simp only [ltL] at h1 h2
      by_cases q : a = b
      · subst q; simp at h1 h2; rw [ih y h1 h2]
      · have q2 : ¬ b = a := fun z => q z.symm
        simp [q, q2] at h1 h2; omega
theorem lt_trans' : ∀ x y z : List Nat, ltL x y = true → ltL y z = true → ltL x z = true := by
  intro x
  induction x with
  | nil => intro y z h1 h2; cases z with
    | nil => cases y <;> cases h2
    | cons c z => rfl
  | cons a x ih =>
    intro y z h1 h2
    cases y with
    | nil => cases h1
    | cons b y =>
      cases z with
      | nil => cases h2
      | cons c z =>
        simp only [ltL] at h1 h2 ⊢
        by_cases q : a = b
        · subst q
          simp at h1
          by_cases q2 : a = c
          · subst q2; simp at h2 ⊢; exact ih y z h1 h2
          · simp [q2] at h2 ⊢; exact h2
        · simp [q] at h1
          by_cases q2 : b = c
          · subst q2; simp [q]; exact h1
          · simp [q2] at h2
            have q3 : ¬ a = c := by omega
            simp [q3]; omega
theorem rsort_eq (l : List (List Nat)) : rsort l = sortS leL l := by
  refine merge_eq leL (fun a b c h1 h2 => ?_) (fun a b => ?_) (fun a b h1 h2 => ?_) l
  · unfold leL at h1 h2 ⊢
    simp only [Bool.not_eq_true'] at h1 h2 ⊢
    cases q : ltL c a with
    | false => rfl
    | true =>
      exfalso
      cases q2 : ltL b c with
      | true =>
        have := lt_trans' b c a q2 q
        rw [h1] at this; cases this
      | false =>
        have := lt_tri c b h2 q2
        subst this
        rw [h1] at q; cases q
  · unfold leL
    cases q : ltL b a with
    | false => rfl
    | true => rw [lt_asym b a q]; rfl
  · unfold leL at h1 h2
    simp only [Bool.not_eq_true'] at h1 h2
    exact lt_tri a b h2 h1
end Q
set_option autoImplicit false
set_option linter.all false
set_option maxRecDepth 1000000
set_option maxHeartbeats 0
namespace Q
open PySem
def isS (l : List Nat) : List Nat := sortS (fun a b => decide (a ≤ b)) l
theorem isort_fun : isort = isS := funext isort_eq
theorem rsort_fun : rsort = sortS leL := funext rsort_eq
def partStepS (adj : Nat → Nat → Bool) (os : List Nat) (st : List (List Nat) × List Nat) (o : Nat) : List (List Nat) × List Nat :=
  if st.2.contains o then st else (st.1 ++ [isS (bfs adj os st.2 os.length 0 [o])], st.2 ++ bfs adj os st.2 os.length 0 [o])
def partsS (adj : Nat → Nat → Bool) (os : List Nat) : List (List Nat) := (os.foldl (partStepS adj os) ([], [])).1
theorem parts_fun : parts = partsS := by
  funext adj os
  unfold parts partsS
  have : partStep adj os = partStepS adj os := by
    funext st o
    unfold partStep partStepS
    rw [isort_fun]
  rw [this]
def bunchStepS (adj : Nat → Nat → Bool) (found : List (List Nat)) (o : Nat) : List (List Nat) :=
  let met := found.filter fun b => b.any fun k => adj o k
  (found.filter fun b => !met.contains b) ++ [isS (met.foldl (fun j b => j ++ b) [o])]
def bunchesS (adj : Nat → Nat → Bool) (os : List Nat) : List (List Nat) := sortS leL (os.foldl (bunchStepS adj) [])
theorem bunches_fun : bunches = bunchesS := by
  funext adj os
  unfold bunches bunchesS
  have : bunchStep adj = bunchStepS adj := by
    funext st o
    unfold bunchStep bunchStepS
    rw [isort_fun]
  rw [this, rsort_fun]
def graphS (n j b : Nat) : Bool :=
  let os := others n j
  let adj := adjB os b
  let ps := partsS adj os
  decide (bunchesS adj os = ps) && (ps.all (fun l => !l.isEmpty && (ascN l && l.all fun o => decide (o < n))) && (decide (isS ps.flatten = os) && (decide (sortS leL ps = ps) && (decide (ps.flatten.length ≤ 5) && (decide (ps.length ≤ 5) &&
    (pwB (fun l m => l.all fun i => m.all fun k => !adj i k) ps &&
    (List.range (2 ^ os.length)).all fun s =>
      let S := os.filter fun o => s.testBit (os.idxOf o)
      let q := bfs adj os [] os.length 0 S
      os.all fun o => q.contains o == ps.any fun l => l.contains o && l.any fun x => S.contains x))))))
theorem graph_eq (n j b : Nat) : graphOk n j b = graphS n j b := by
  unfold graphOk graphS
  rw [parts_fun, bunches_fun, isort_fun, rsort_fun]
theorem g50 : ((List.range 64).all fun b => graphS 5 0 b) = true := by decide +kernel
theorem g51 : ((List.range 64).all fun b => graphS 5 1 b) = true := by decide +kernel
theorem g52 : ((List.range 64).all fun b => graphS 5 2 b) = true := by decide +kernel
theorem g53 : ((List.range 64).all fun b => graphS 5 3 b) = true := by decide +kernel
theorem g54 : ((List.range 64).all fun b => graphS 5 4 b) = true := by decide +kernel
theorem g4 : ((List.range 4).all fun j => (List.range 64).all fun b => graphS 4 j b) = true := by decide +kernel
theorem g3 : ((List.range 4).all fun n => (List.range n).all fun j => (List.range 64).all fun b => graphS n j b) = true := by decide +kernel
theorem graph_ok {n j b : Nat} (hn : n ≤ 5) (hj : j < n) (hb : b < 64) : graphOk n j b = true := by
  rw [graph_eq]
  have hb : b ∈ List.range 64 := by rw [List.mem_range]; exact hb
  have c : n = 5 ∨ n = 4 ∨ n < 4 := by omega
  rcases c with e | e | e
  · subst e
    have c : j = 0 ∨ j = 1 ∨ j = 2 ∨ j = 3 ∨ j = 4 := by omega
    rcases c with e | e | e | e | e <;> subst e
    · exact List.all_eq_true.mp g50 b hb
    · exact List.all_eq_true.mp g51 b hb
    · exact List.all_eq_true.mp g52 b hb
    · exact List.all_eq_true.mp g53 b hb
    · exact List.all_eq_true.mp g54 b hb
  · subst e
    exact List.all_eq_true.mp (List.all_eq_true.mp g4 j (by rw [List.mem_range]; exact hj)) b hb
  · exact List.all_eq_true.mp (List.all_eq_true.mp (List.all_eq_true.mp g3 n (by rw [List.mem_range]; exact e)) j (by rw [List.mem_range]; exact hj)) b hb
end Q
set_option autoImplicit false
set_option linter.all false
set_option maxRecDepth 100000
set_option maxHeartbeats 4000000
namespace Q
open PySem
def Agree (os : List Nat) (f f' : Nat → Nat → Bool) : Prop := ∀ i ∈ os, ∀ k ∈ os, i ≠ k → f i k = f' i k
section
variable {os : List Nat} {f f' : Nat → Nat → Bool} (ag : Agree os f f')
include ag
theorem stepQ_congr {kn q : List Nat} {a : Nat} (i : Kq os kn q) (ha : a < q.length) : stepQ f os kn a q = stepQ f' os kn a q := by
  unfold stepQ
  have gen : ∀ (l q : List Nat), (∀ o ∈ l, o ∈ os) → Kq os kn q → a < q.length → l.foldl (fun q o => if !(kn ++ q).contains o && f (q.getD a 0) o then q ++ [o] else q) q = l.foldl (fun q o => if !(kn ++ q).contains o && f' (q.getD a 0) o then q ++ [o] else q) q := by
    intro l
    induction l with
    | nil => intro q _ _ _; rfl
    | cons o l ih =>
      intro q hl i ha
      rw [List.foldl_cons, List.foldl_cons]
      have ho := hl o (by simp)
      have hl2 : ∀ x ∈ l, x ∈ os := fun x hx => hl x (by simp [hx])
      cases hc : (kn ++ q).contains o with
      | true =>
        simp only [Bool.not_true, Bool.false_and, Bool.false_eq_true, if_false]
        exact ih q hl2 i ha
      | false =>
        have hm : q.getD a 0 ∈ q := by
          rw [List.getD_eq_getElem?_getD, List.getElem?_eq_getElem ha]; exact List.getElem_mem _
        have hne : q.getD a 0 ≠ o := by
          intro e
          have : (kn ++ q).contains o = true := by
            rw [List.contains_iff_mem]
            exact List.mem_append_right _ (e ▸ hm)
          rw [this] at hc
          cases hc
        rw [ag _ (i.sub _ (List.mem_append_right _ hm)) _ ho hne]
        by_cases q2 : f' (q.getD a 0) o = true
        · simp only [q2, Bool.not_false, Bool.true_and, if_true]
          exact ih _ hl2 (i.add ho hc) (by simp; omega)
        · simp only [q2, Bool.not_false, Bool.true_and, if_false]
          exact ih q hl2 i ha
  exact gen os q (fun _ h => h) i ha
theorem bfs_congr {kn : List Nat} : ∀ (m a : Nat) (q : List Nat), Kq os kn q → bfs f os kn m a q = bfs f' os kn m a q := by
  intro m
  induction m with
  | zero => intro a q _; rfl
  | succ m ih =>
    intro a q i
    show (if a < q.length then bfs f os kn m (a + 1) (stepQ f os kn a q) else q) = (if a < q.length then bfs f' os kn m (a + 1) (stepQ f' os kn a q) else q)
    by_cases ha : a < q.length
    · rw [if_pos ha, if_pos ha, stepQ_congr ag i ha]
      exact ih _ _ (stepQ_kq a i).1
    · rw [if_neg ha, if_neg ha]
theorem parts_congr : parts f os = parts f' os := by
  unfold parts
  have gen : ∀ (rest : List Nat) (st : List (List Nat) × List Nat), (∀ o ∈ rest, o ∈ os) → Kq os st.2 [] → rest.foldl (partStep f os) st = rest.foldl (partStep f' os) st := by
    intro rest
    induction rest with
    | nil => intro st _ _; rfl
    | cons o rest ih =>
      intro st hr hk
      rw [List.foldl_cons, List.foldl_cons]
      have hr2 : ∀ x ∈ rest, x ∈ os := fun x hx => hr x (by simp [hx])
      by_cases c : st.2.contains o = true
      · have e1 : partStep f os st o = st := if_pos c
        have e2 : partStep f' os st o = st := if_pos c
        rw [e1, e2]
        exact ih st hr2 hk
      · have i0 : Kq os st.2 [o] := hk.add (hr o (by simp)) (by rw [List.append_nil]; simpa using c)
        have e1 : partStep f os st o = (st.1 ++ [isort (bfs f os st.2 os.length 0 [o])], st.2 ++ bfs f os st.2 os.length 0 [o]) := if_neg c
        have e2 : partStep f' os st o = (st.1 ++ [isort (bfs f' os st.2 os.length 0 [o])], st.2 ++ bfs f' os st.2 os.length 0 [o]) := if_neg c
        have b1 := (bfs_kq (adj := f') os.length 0 [o] i0).1
        rw [e1, e2, bfs_congr ag _ _ _ i0]
        exact ih _ hr2 ⟨by rw [List.append_nil]; exact b1.nd, by rw [List.append_nil]; exact b1.sub⟩
  rw [gen os ([], []) (fun _ h => h) ⟨by simp, by simp⟩]
theorem bunchStep_congr {found : List (List Nat)} {o : Nat} (ho : o ∈ os) (hf : ∀ b ∈ found, ∀ k ∈ b, k ∈ os ∧ o ≠ k) : bunchStep f found o = bunchStep f' found o := by
  unfold bunchStep
  have e : (found.filter fun b => b.any fun k => f o k) = found.filter fun b => b.any fun k => f' o k := by
    refine List.filter_congr fun b hb => ?_
    rw [Bool.eq_iff_iff, List.any_eq_true, List.any_eq_true]
    constructor
    · rintro ⟨k, hk, e⟩
      exact ⟨k, hk, by rw [← ag o ho k (hf b hb k hk).1 (hf b hb k hk).2]; exact e⟩
    · rintro ⟨k, hk, e⟩
      exact ⟨k, hk, by rw [ag o ho k (hf b hb k hk).1 (hf b hb k hk).2]; exact e⟩
  rw [e]
end
theorem bunchStep_mem {adj : Nat → Nat → Bool} {found : List (List Nat)} {o : Nat} : ∀ b ∈ bunchStep adj found o, ∀ k ∈ b, k = o ∨ ∃ c ∈ found, k ∈ c := by
  intro b hb k hk
  unfold bunchStep at hb
  rcases List.mem_append.mp hb with h | h
  · exact .inr ⟨b, (List.mem_filter.mp h).1, hk⟩
  · rw [List.mem_singleton.mp h, isort_mem] at hk
    have gen : ∀ (l : List (List Nat)) (s : List Nat), k ∈ l.foldl (fun j b => j ++ b) s → k ∈ s ∨ ∃ c ∈ l, k ∈ c := by
      intro l
      induction l with
      | nil => intro s h; exact .inl h
      | cons c l ih =>
        intro s h
        rcases ih _ h with h | ⟨d, hd, h⟩
        · rcases List.mem_append.mp h with h | h
          · exact .inl h
          · exact .inr ⟨c, by simp, h⟩
        · exact .inr ⟨d, by simp [hd], h⟩
    rcases gen _ _ hk with h | ⟨c, hc, h⟩
    · exact .inl (List.mem_singleton.mp h)
    · exact .inr ⟨c, (List.mem_filter.mp hc).1, h⟩
theorem bunches_congr {os : List Nat} {f f' : Nat → Nat → Bool} (ag : Agree os f f') (nd : os.Nodup) : bunches f os = bunches f' os := by
  unfold bunches
  have gen : ∀ (rest pre : List Nat) (found : List (List Nat)), os = pre ++ rest → (∀ b ∈ found, ∀ k ∈ b, k ∈ pre) → rest.foldl (bunchStep f) found = rest.foldl (bunchStep f') found := by
    intro rest
    induction rest with
    | nil => intro pre found _ _; rfl
    | cons o rest ih =>
      intro pre found e hf
      rw [List.foldl_cons, List.foldl_cons]
      have nd2 := nd
      rw [e, List.nodup_append] at nd2
      have hs : bunchStep f found o = bunchStep f' found o := bunchStep_congr ag (by rw [e]; simp) fun b hb k hk => ⟨by rw [e]; simp [hf b hb k hk], fun z => nd2.2.2 k (hf b hb k hk) o (by simp) z.symm⟩
      rw [hs]
      refine ih (pre ++ [o]) _ (by rw [e]; simp) fun b hb k hk => ?_
      rcases bunchStep_mem b hb k hk with h | ⟨c, hc, h⟩
      · subst h; simp
      · simp [hf c hc k h]
  rw [gen os [] [] rfl (by simp)]
theorem six (p0 p1 p2 p3 p4 p5 : Bool) : ∃ b, b < 64 ∧ b.testBit 0 = p0 ∧ b.testBit 1 = p1 ∧ b.testBit 2 = p2 ∧ b.testBit 3 = p3 ∧ b.testBit 4 = p4 ∧ b.testBit 5 = p5 := by
  have key : ∀ p0 p1 p2 p3 p4 p5 : Bool, (List.range 64).any (fun b => b.testBit 0 == p0 && (b.testBit 1 == p1 && (b.testBit 2 == p2 && (b.testBit 3 == p3 && (b.testBit 4 == p4 && b.testBit 5 == p5))))) = true := by decide +kernel
  obtain ⟨b, hb, h⟩ := List.any_eq_true.mp (key p0 p1 p2 p3 p4 p5)
  simp only [Bool.and_eq_true, beq_iff_eq] at h
  exact ⟨b, by simpa using hb, h⟩
theorem adj_bits (os : List Nat) (nd : os.Nodup) (hl : os.length ≤ 4) (f : Nat → Nat → Bool) (sym : ∀ i k, f i k = f k i) : ∃ b, b < 64 ∧ Agree os f (adjB os b) := by
  let g (a c : Nat) : Bool := f (os.getD a 0) (os.getD c 0)
  obtain ⟨b, hb, h0, h1, h2, h3, h4, h5⟩ := six (g 0 1) (g 0 2) (g 0 3) (g 1 2) (g 1 3) (g 2 3)
  refine ⟨b, hb, fun i hi k hk hne => ?_⟩
  have key : ∀ i k, i ∈ os → k ∈ os → os.idxOf i < os.idxOf k → f i k = b.testBit (pairIx (os.idxOf i) (os.idxOf k)) := by
    intro i k hi hk hlt
    have ai : os.getD (os.idxOf i) 0 = i := by
      rw [List.getD_eq_getElem?_getD, List.getElem?_eq_getElem (List.idxOf_lt_length_of_mem hi)]; simp
    have ak : os.getD (os.idxOf k) 0 = k := by
      rw [List.getD_eq_getElem?_getD, List.getElem?_eq_getElem (List.idxOf_lt_length_of_mem hk)]; simp
    have hk4 : os.idxOf k < 4 := Nat.lt_of_lt_of_le (List.idxOf_lt_length_of_mem hk) hl
    have e : f i k = g (os.idxOf i) (os.idxOf k) := by show f i k = f _ _; rw [ai, ak]
    rw [e]
    generalize os.idxOf i = x at hlt
    generalize os.idxOf k = y at hlt hk4
    have c : (x = 0 ∧ y = 1) ∨ (x = 0 ∧ y = 2) ∨ (x = 0 ∧ y = 3) ∨ (x = 1 ∧ y = 2) ∨ (x = 1 ∧ y = 3) ∨ (x = 2 ∧ y = 3) := by omega
    rcases c with ⟨rfl, rfl⟩ | ⟨rfl, rfl⟩ | ⟨rfl, rfl⟩ | ⟨rfl, rfl⟩ | ⟨rfl, rfl⟩ | ⟨rfl, rfl⟩
    · exact h0.symm
    · exact h1.symm
    · exact h2.symm
    · exact h3.symm
    · exact h4.symm
    · exact h5.symm
  have hix : os.idxOf i ≠ os.idxOf k := by
    intro z
    have ai : os[os.idxOf i]'(List.idxOf_lt_length_of_mem hi) = i := by simp
    have ak : os[os.idxOf k]'(List.idxOf_lt_length_of_mem hk) = k := by simp
    exact hne (by rw [← ai, ← ak]; congr 1)
  unfold adjB
  have hb1 : (i != k) = true := by simpa using hne
  rw [hb1, Bool.true_and]
  rcases Nat.lt_or_gt_of_ne hix with q | q
  · rw [Nat.min_eq_left (by omega), Nat.max_eq_right (by omega)]
    exact key i k hi hk q
  · rw [Nat.min_eq_right (by omega), Nat.max_eq_left (by omega), sym i k]
    exact key k i hk hi q
end Q
set_option autoImplicit false
set_option linter.all false
set_option maxRecDepth 100000
set_option maxHeartbeats 4000000
namespace Q
open PySem
theorem adj_sym (h : House) (i k : Nat) : h.adj i k = h.adj k i := meet_comm _ _
theorem others_few {n j : Nat} (hj : j < n) : (others n j).length + 1 ≤ n := by
  have := L2.nat_nodup_len (j :: others n j) (List.range n) (List.nodup_cons.mpr ⟨fun h => by
    have := (List.mem_filter.mp h).2
    simp at this, others_nd n j⟩) fun x hx => by
      rcases List.mem_cons.mp hx with e | e
      · subst e; simpa using hj
      · have := others_lt e; simpa using this
  simpa using this
theorem ascN_ok : ∀ l : List Nat, ascN l = true → l.Pairwise (· < ·)
  | [], _ => .nil
  | [a], _ => List.pairwise_singleton _ _
  | a :: b :: r, h => by
    obtain ⟨h1, h2⟩ := and_t (show (decide (a < b) && ascN (b :: r)) = true from h)
    have h1 := dec_t h1
    have ih := ascN_ok (b :: r) h2
    refine List.pairwise_cons.mpr ⟨fun y hy => ?_, ih⟩
    rcases List.mem_cons.mp hy with e | e
    · subst e; exact h1
    · exact Nat.lt_trans h1 ((List.pairwise_cons.mp ih).1 y e)
theorem pwB_ok {f : List Nat → List Nat → Bool} : ∀ ps : List (List Nat), pwB f ps = true → ps.Pairwise fun l m => f l m = true
  | [], _ => .nil
  | l :: r, h => by
    obtain ⟨h1, h2⟩ := and_t (show (r.all (f l) && pwB f r) = true from h)
    exact List.pairwise_cons.mpr ⟨fun m hm => List.all_eq_true.mp h1 m hm, pwB_ok r h2⟩
theorem four (p0 p1 p2 p3 : Bool) : ∃ s, s < 16 ∧ s.testBit 0 = p0 ∧ s.testBit 1 = p1 ∧ s.testBit 2 = p2 ∧ s.testBit 3 = p3 := by
  have key : ∀ p0 p1 p2 p3 : Bool, (List.range 16).any (fun b => b.testBit 0 == p0 && (b.testBit 1 == p1 && (b.testBit 2 == p2 && b.testBit 3 == p3))) = true := by decide +kernel
  obtain ⟨b, hb, h⟩ := List.any_eq_true.mp (key p0 p1 p2 p3)
  simp only [Bool.and_eq_true, beq_iff_eq] at h
  exact ⟨b, by simpa using hb, h⟩
theorem sub_bits (os : List Nat) (hl : os.length ≤ 4) (p : Nat → Bool) : ∃ s, s < 2 ^ os.length ∧ os.filter (fun o => s.testBit (os.idxOf o)) = os.filter p := by
  let g (a : Nat) : Bool := decide (a < os.length) && p (os.getD a 0)
  obtain ⟨s, hs, h0, h1, h2, h3⟩ := four (g 0) (g 1) (g 2) (g 3)
  have hb : ∀ a, a < 4 → s.testBit a = g a := by
    intro a ha
    have c : a = 0 ∨ a = 1 ∨ a = 2 ∨ a = 3 := by omega
    rcases c with e | e | e | e <;> subst e <;> assumption
  refine ⟨s, ?_, ?_⟩
  · refine Nat.lt_pow_two_of_testBit s fun a ha => ?_
    by_cases h4 : a < 4
    · rw [hb a h4]
      show (decide (a < os.length) && _) = false
      have : decide (a < os.length) = false := by simpa using ha
      rw [this]; rfl
    · exact Nat.testBit_lt_two_pow (Nat.lt_of_lt_of_le hs (show 2 ^ 4 ≤ 2 ^ a from Nat.pow_le_pow_right (by decide) (by omega)))
  · refine List.filter_congr fun o ho => ?_
    have hx := List.idxOf_lt_length_of_mem ho
    rw [hb _ (by omega)]
    show (decide (_ < os.length) && p _) = p o
    have e1 : decide (os.idxOf o < os.length) = true := decide_eq_true hx
    have e2 : os.getD (os.idxOf o) 0 = o := by
      rw [List.getD_eq_getElem?_getD, List.getElem?_eq_getElem hx]; simp
    rw [e1, e2, Bool.true_and]
structure GraphOk (h : House) (j : Nat) : Prop where
  same : bunches h.adj (others h.n j) = parts h.adj (others h.n j)
  part : PartOk h.n j (parts h.adj (others h.n j))
  apart : (parts h.adj (others h.n j)).Pairwise fun l m => ∀ i ∈ l, ∀ k ∈ m, h.adj i k = false
  reach : ∀ (p : Nat → Bool), ∀ o ∈ others h.n j, (o ∈ bfs h.adj (others h.n j) [] (others h.n j).length 0 ((others h.n j).filter p)) ↔ ∃ l ∈ parts h.adj (others h.n j), o ∈ l ∧ ∃ x ∈ l, x ∈ others h.n j ∧ p x = true
theorem graph_facts {h : House} (g : Good5 h) {j : Nat} (hj : j < h.n) : GraphOk h j := by
  have hn5 := g.n
  have hl : (others h.n j).length ≤ 4 := by have := others_few hj; omega
  have nd := others_nd h.n j
  obtain ⟨b, hb, ag⟩ := adj_bits (others h.n j) nd hl h.adj (adj_sym h)
  have ok := graph_ok (n := h.n) (j := j) (b := b) g.n hj hb
  have e1 := parts_congr ag
  have e2 := bunches_congr ag nd
  unfold graphOk at ok
  generalize hos : others h.n j = os at *
  simp only at ok
  rw [← e1, ← e2] at ok
  obtain ⟨o1, t⟩ := and_t ok
  obtain ⟨o2, t⟩ := and_t t
  obtain ⟨o3, t⟩ := and_t t
  obtain ⟨o4, t⟩ := and_t t
  obtain ⟨o5, t⟩ := and_t t
  obtain ⟨o6, t⟩ := and_t t
  obtain ⟨o7, o8⟩ := and_t t
  have pok := parts_ok (adj := h.adj) nd
  refine ⟨by rw [hos]; exact dec_t o1, ⟨fun l hl => ?_, by rw [hos]; exact dec_t o3, by rw [hos]; exact dec_t o4, by rw [hos]; exact ⟨dec_t o5, dec_t o6⟩⟩, ?_, fun p o ho => ?_⟩
  · rw [hos] at hl
    have := List.all_eq_true.mp o2 l hl
    obtain ⟨a1, a2⟩ := and_t this
    obtain ⟨a2, a3⟩ := and_t a2
    refine ⟨by simpa using a1, ascN_ok l a2, fun o ho => ?_⟩
    have := List.all_eq_true.mp a3 o ho
    simpa using this
  · rw [hos]
    have fnd : (parts h.adj os).flatten.Nodup := by
      have p1 : (isort (parts h.adj os).flatten).Nodup := by rw [dec_t o3]; exact nd
      exact (List.mergeSort_perm (parts h.adj os).flatten (fun a b => decide (a ≤ b))).nodup_iff.mp p1
    have pd := (List.pairwise_flatten.mp fnd).2
    have pw := (pwB_ok _ o7).and pd
    refine List.Pairwise.imp_of_mem (fun {l m} hl hm q i hi k hk => ?_) pw
    obtain ⟨q, dj⟩ := q
    simp only [List.all_eq_true, Bool.not_eq_true'] at q
    have q1 := q i hi k hk
    have i1 := ((pok.2 l hl).1 i hi)
    have k1 := ((pok.2 m hm).1 k hk)
    by_cases e : i = k
    · subst e
      exact absurd rfl (dj i hi i hk)
    · rw [ag i i1 k k1 e]; exact q1
  · rw [hos] at ho ⊢
    obtain ⟨s, hs, es⟩ := sub_bits os hl p
    have o9 := List.all_eq_true.mp o8 s (by rw [List.mem_range]; exact hs)
    have o10 := List.all_eq_true.mp o9 o ho
    rw [es] at o10
    have i0 : Kq os [] (os.filter p) := ⟨by rw [List.nil_append]; exact nd.filter _, fun x hx => by
      have hx : x ∈ os.filter p := by simpa using hx
      exact (List.mem_filter.mp hx).1⟩
    rw [← bfs_congr ag _ _ _ i0] at o10
    have o10 : (bfs h.adj os [] os.length 0 (os.filter p)).contains o = (parts h.adj os).any fun l => l.contains o && l.any fun x => (os.filter p).contains x := by simpa using o10
    rw [← List.contains_iff_mem, o10]
    simp only [List.any_eq_true, Bool.and_eq_true, List.contains_iff_mem, List.mem_filter]
end Q
set_option autoImplicit false
set_option linter.all false
set_option maxRecDepth 100000
set_option maxHeartbeats 4000000
namespace Q
open PySem
theorem hit_any (h : House) (b : List St) (l : List Nat) : hitL h (accs b) l = b.any fun s => hitL h (accS s) l := by
  rw [Bool.eq_iff_iff]
  unfold hitL accs
  simp only [List.any_eq_true, meet_flat]
  constructor
  · rintro ⟨o, ho, s, hs, e⟩; exact ⟨s, hs, o, ho, e⟩
  · rintro ⟨s, hs, o, ho, e⟩; exact ⟨o, ho, s, hs, e⟩
def hitk (h : House) (j k : Nat) (l : List Nat) : Bool := hitL h (accS ((h.body j).getD k (.ot ("" : Str) []))) l
theorem piece_hit (h : House) (j : Nat) (r : List Nat) (k : Nat) (l : List Nat) : hitL h (accs (piece (h.body j) r k)) l = true ↔ ∃ t, t < (h.body j).length ∧ (placesOf (h.body j) r).getD k 0 ≤ t ∧ t < (placesOf (h.body j) r).getD (k + 1) 0 ∧ hitk h j t l = true := by
  rw [hit_any, List.any_eq_true]
  unfold piece hitk
  generalize (placesOf (h.body j) r).getD k 0 = a
  generalize (placesOf (h.body j) r).getD (k + 1) 0 = b
  constructor
  · rintro ⟨s, hs, e⟩
    obtain ⟨i, hi, rfl⟩ := List.getElem_of_mem hs
    have hi2 := hi
    rw [List.length_take, List.length_drop] at hi2
    refine ⟨a + i, by omega, by omega, by omega, ?_⟩
    rw [List.getElem_take, List.getElem_drop] at e
    rw [List.getD_eq_getElem?_getD, List.getElem?_eq_getElem (by omega)]
    exact e
  · rintro ⟨t, h1, h2, h3, e⟩
    refine ⟨(h.body j)[t], ?_, ?_⟩
    · have : ((h.body j).drop a).take (b - a) = ((h.body j).drop a).take (b - a) := rfl
      rw [List.mem_iff_getElem]
      refine ⟨t - a, by rw [List.length_take, List.length_drop]; omega, ?_⟩
      rw [List.getElem_take, List.getElem_drop]
      congr 1
      omega
    · rw [List.getD_eq_getElem?_getD, List.getElem?_eq_getElem h1] at e
      exact e
theorem xs_get (h : House) (c : List (List Nat)) (j k : Nat) (hk : k < (c.getD j []).length + 1) : (xsOf h c j).getD k [] = accs (piece (h.body j) (c.getD j []) k) := by
  unfold xsOf pieces
  rw [List.map_map, List.getD_eq_getElem?_getD, List.getElem?_map, List.getElem?_range hk]
  rfl
theorem crossP_iff {h : House} (g : Good5 h) {j : Nat} (hj : j < h.n) (xs : List (List Acc)) (i k : Nat) : crossP h j xs i k = true ↔ ∃ l ∈ parts h.adj (others h.n j), hitL h (xs.getD i []) l = true ∧ hitL h (xs.getD k []) l = true := by
  have gf := graph_facts g hj
  have pok := (parts_ok (adj := h.adj) (others_nd h.n j)).2
  unfold crossP reach
  rw [List.any_eq_true]
  have i0 : Kq (others h.n j) [] ((others h.n j).filter fun o => meet (xs.getD i []) (h.acc o)) := ⟨by rw [List.nil_append]; exact (others_nd h.n j).filter _, fun x hx => by
    rw [List.nil_append] at hx
    exact (List.mem_filter.mp hx).1⟩
  have bk := (bfs_kq (adj := h.adj) (others h.n j).length 0 _ i0).1
  have rc := gf.reach fun o => meet (xs.getD i []) (h.acc o)
  unfold hitL
  constructor
  · rintro ⟨o, ho, e⟩
    have hos := bk.sub o (by rw [List.nil_append]; exact ho)
    obtain ⟨l, hl, hol, x, hx, _, ex⟩ := (rc o hos).mp ho
    refine ⟨l, hl, ?_, ?_⟩
    · rw [List.any_eq_true]; exact ⟨x, hx, ex⟩
    · rw [List.any_eq_true]; exact ⟨o, hol, by rw [meet_comm]; exact e⟩
  · rintro ⟨l, hl, h1, h2⟩
    rw [List.any_eq_true] at h1 h2
    obtain ⟨x, hx, ex⟩ := h1
    obtain ⟨o, ho, eo⟩ := h2
    have hos := (pok l hl).1 o ho
    exact ⟨o, (rc o hos).mpr ⟨l, hl, ho, x, hx, (pok l hl).1 x hx, ex⟩, by rw [meet_comm]; exact eo⟩
theorem between (f : Nat → Nat) (t : Nat) : ∀ N, f 0 ≤ t → t < f N → ∃ i, i < N ∧ f i ≤ t ∧ t < f (i + 1) := by
  intro N
  induction N with
  | zero => intro h1 h2; omega
  | succ N ih =>
    intro h1 h2
    by_cases q : t < f N
    · obtain ⟨i, hi, e⟩ := ih h1 q
      exact ⟨i, by omega, e⟩
    · exact ⟨N, by omega, by omega, h2⟩
structure RowOk (len : Nat) (r : List Nat) : Prop where
  asc : r.Pairwise (· < ·)
  inn : ∀ p ∈ r, 1 ≤ p ∧ p < len
theorem places_0 (b : List St) (r : List Nat) : (placesOf b r).getD 0 0 = 0 := rfl
theorem places_in (b : List St) (r : List Nat) (k : Nat) (hk : k < r.length) : (placesOf b r).getD (k + 1) 0 = r[k] := by
  unfold placesOf
  rw [List.getD_eq_getElem?_getD, List.getElem?_cons_succ, List.getElem?_append_left hk, List.getElem?_eq_getElem hk]
  rfl
theorem places_end (b : List St) (r : List Nat) : (placesOf b r).getD (r.length + 1) 0 = b.length := by
  unfold placesOf
  rw [List.getD_eq_getElem?_getD, List.getElem?_cons_succ, List.getElem?_append_right (Nat.le_refl _)]
  simp
theorem places_mono {b : List St} {r : List Nat} (ro : RowOk b.length r) {i k : Nat} (hik : i < k) (hk : k ≤ r.length) : (placesOf b r).getD (i + 1) 0 ≤ (placesOf b r).getD k 0 := by
  obtain ⟨m, rfl⟩ : ∃ m, k = m + 1 := ⟨k - 1, by omega⟩
  rw [places_in b r i (by omega), places_in b r m (by omega)]
  rcases Nat.lt_or_ge i m with q | q
  · exact Nat.le_of_lt (List.pairwise_iff_getElem.mp ro.asc i m (by omega) (by omega) q)
  · have : i = m := by omega
    subst this
    exact Nat.le_refl _
theorem cross_mid {h : House} (g : Good5 h) {c : List (List Nat)} {j : Nat} (hj : j < h.n) (ro : RowOk (h.body j).length (c.getD j [])) :
    crossJ h c j = true ↔ ∃ l ∈ parts h.adj (others h.n j), ∃ p ∈ c.getD j [], ∃ t t', t < p ∧ p ≤ t' ∧ t' < (h.body j).length ∧ hitk h j t l = true ∧ hitk h j t' l = true := by
  unfold crossJ crossX
  rw [xs_len, List.any_eq_true]
  constructor
  · rintro ⟨i, hi, e⟩
    rw [List.any_eq_true] at e
    obtain ⟨k, hk, e⟩ := e
    rw [List.mem_range] at hi hk
    rw [crossP_iff g hj] at e
    obtain ⟨l, hl, e1, e2⟩ := e
    rw [xs_get h c j _ (by omega)] at e1 e2
    obtain ⟨t, t1, t2, t3, t4⟩ := (piece_hit ..).mp e1
    obtain ⟨t', s1, s2, s3, s4⟩ := (piece_hit ..).mp e2
    have mono := places_mono ro (i := i) (k := i + 1 + k) (by omega) (by omega)
    have hp := places_in (h.body j) (c.getD j []) (i + k) (by omega)
    have ee : i + 1 + k = i + k + 1 := by omega
    rw [ee] at mono s2
    exact ⟨l, hl, (c.getD j [])[i + k]'(by omega), List.getElem_mem _, t, t', by rw [← hp]; omega, by rw [← hp]; exact s2, s1, t4, s4⟩
  · rintro ⟨l, hl, p, hp, t, t', h1, h2, h3, h4, h5⟩
    obtain ⟨m, hm, rfl⟩ := List.getElem_of_mem hp
    have hpm := places_in (h.body j) (c.getD j []) m hm
    obtain ⟨i, i1, i2, i3⟩ := between (fun x => (placesOf (h.body j) (c.getD j [])).getD x 0) t (m + 1) (Nat.zero_le _) (by show t < (placesOf _ _).getD (m + 1) 0; rw [hpm]; exact h1)
    obtain ⟨k, k1, k2, k3⟩ := between (fun x => (placesOf (h.body j) (c.getD j [])).getD (m + 1 + x) 0) t' ((c.getD j []).length + 1 - (m + 1)) (by show (placesOf _ _).getD (m + 1) 0 ≤ t'; rw [hpm]; exact h2) (by
      show t' < (placesOf _ _).getD (m + 1 + ((c.getD j []).length + 1 - (m + 1))) 0
      have ee : m + 1 + ((c.getD j []).length + 1 - (m + 1)) = (c.getD j []).length + 1 := by omega
      rw [ee, places_end]; exact h3)
    refine ⟨i, by rw [List.mem_range]; omega, ?_⟩
    rw [List.any_eq_true]
    refine ⟨m + 1 + k - (i + 1), by rw [List.mem_range]; omega, ?_⟩
    have ee : i + 1 + (m + 1 + k - (i + 1)) = m + 1 + k := by omega
    rw [ee, crossP_iff g hj]
    refine ⟨l, hl, ?_, ?_⟩
    · rw [xs_get h c j _ (by omega)]
      exact (piece_hit ..).mpr ⟨t, by omega, i2, i3, h4⟩
    · rw [xs_get h c j _ (by omega)]
      exact (piece_hit ..).mpr ⟨t', h3, k2, k3, h5⟩
end Q
set_option autoImplicit false
set_option linter.all false
set_option maxRecDepth 100000
set_option maxHeartbeats 4000000
namespace Q
open PySem
theorem hit_places {h : House} {j t : Nat} {l : List Nat} : t ∈ placesHit h j l ↔ t < (h.body j).length ∧ hitk h j t l = true := by
  unfold placesHit hitk
  rw [List.mem_filter, List.mem_range]
theorem span_ends {ps : List Nat} (hs : ps.Pairwise (· < ·)) {s : Nat × Nat} (e : spanOf ps = some s) : s.1 ∈ ps ∧ s.2 ∈ ps ∧ ∀ t ∈ ps, s.1 ≤ t ∧ t ≤ s.2 := by
  cases ps with
  | nil => cases e
  | cons p r =>
    cases e
    have hne : p :: r ≠ [] := by simp
    obtain ⟨m, a, hma⟩ : ∃ m a, p :: r = m ++ [a] := ⟨(p :: r).dropLast, (p :: r).getLast hne, (List.dropLast_concat_getLast hne).symm⟩
    have hl : lastN (p :: r) = a := by unfold lastN; rw [hma]; simp
    rw [hl]
    refine ⟨by simp, by rw [hma]; simp, fun t ht => ⟨?_, ?_⟩⟩
    · rcases List.mem_cons.mp ht with e | e
      · subst e; exact Nat.le_refl _
      · exact Nat.le_of_lt ((List.pairwise_cons.mp hs).1 t e)
    · rw [hma] at ht hs
      rcases List.mem_append.mp ht with e | e
      · exact Nat.le_of_lt ((List.pairwise_append.mp hs).2.2 t e a (by simp))
      · have : t = a := by simpa using e
        subst this
        exact Nat.le_refl _
theorem hit_asc (h : House) (j : Nat) (l : List Nat) : (placesHit h j l).Pairwise (· < ·) := List.pairwise_lt_range.filter _
theorem barred_iff {h : House} {j p : Nat} : barred (spans h j) p = true ↔ ∃ l ∈ parts h.adj (others h.n j), ∃ t t', t < p ∧ p ≤ t' ∧ t' < (h.body j).length ∧ hitk h j t l = true ∧ hitk h j t' l = true := by
  unfold barred spans
  rw [List.any_eq_true]
  constructor
  · rintro ⟨s, hs, e⟩
    obtain ⟨l, hl, es⟩ := List.mem_filterMap.mp hs
    obtain ⟨h1, h2, h3⟩ := span_ends (hit_asc h j l) es
    obtain ⟨a1, a2⟩ := hit_places.mp h1
    obtain ⟨b1, b2⟩ := hit_places.mp h2
    rw [Bool.and_eq_true, decide_eq_true_eq, decide_eq_true_eq] at e
    exact ⟨l, hl, s.1, s.2, e.1, e.2, b1, a2, b2⟩
  · rintro ⟨l, hl, t, t', h1, h2, h3, h4, h5⟩
    have m1 : t ∈ placesHit h j l := hit_places.mpr ⟨by omega, h4⟩
    have m2 : t' ∈ placesHit h j l := hit_places.mpr ⟨h3, h5⟩
    cases e : spanOf (placesHit h j l) with
    | none =>
      cases q : placesHit h j l with
      | nil => rw [q] at m1; cases m1
      | cons a r => rw [q] at e; cases e
    | some s =>
      obtain ⟨_, _, g3⟩ := span_ends (hit_asc h j l) e
      refine ⟨s, List.mem_filterMap.mpr ⟨l, hl, e⟩, ?_⟩
      rw [Bool.and_eq_true, decide_eq_true_eq, decide_eq_true_eq]
      have := (g3 t m1).1
      have := (g3 t' m2).2
      omega
theorem cross_iff {h : House} (g : Good5 h) {c : List (List Nat)} {j : Nat} (hj : j < h.n) (ro : RowOk (h.body j).length (c.getD j [])) : crossJ h c j = true ↔ ∃ p ∈ c.getD j [], barred (spans h j) p = true := by
  rw [cross_mid g hj ro]
  constructor
  · rintro ⟨l, hl, p, hp, r⟩; exact ⟨p, hp, barred_iff.mpr ⟨l, hl, r⟩⟩
  · rintro ⟨p, hp, e⟩
    obtain ⟨l, hl, r⟩ := barred_iff.mp e
    exact ⟨l, hl, p, hp, r⟩
theorem cross_no {h : House} (g : Good5 h) {c : List (List Nat)} {j : Nat} (hj : j < h.n) (ro : RowOk (h.body j).length (c.getD j [])) : crossJ h c j = false ↔ ∀ p ∈ c.getD j [], barred (spans h j) p = false := by
  rw [← Bool.not_eq_true, cross_iff g hj ro]
  constructor
  · intro q p hp
    rw [← Bool.not_eq_true]
    exact fun e => q ⟨p, hp, e⟩
  · rintro q ⟨p, hp, e⟩
    rw [q p hp] at e
    cases e
theorem finest_get (h : House) (j : Nat) (hj : j < h.n) : (finest h).getD j [] = freeOf (h.body j).length (spans h j) := by
  unfold finest
  rw [List.getD_eq_getElem?_getD, List.getElem?_map, List.getElem?_range hj]; rfl
theorem free_mem {len p : Nat} {sp : List (Nat × Nat)} : p ∈ freeOf len sp ↔ 1 ≤ p ∧ p < len ∧ barred sp p = false := by
  unfold freeOf
  rw [List.mem_filter, List.mem_map]
  constructor
  · rintro ⟨⟨k, hk, rfl⟩, e⟩
    rw [List.mem_range] at hk
    exact ⟨by omega, by omega, by simpa using e⟩
  · rintro ⟨h1, h2, e⟩
    exact ⟨⟨p - 1, by rw [List.mem_range]; omega, by omega⟩, by simpa using e⟩
theorem free_asc (len : Nat) (sp : List (Nat × Nat)) : (freeOf len sp).Pairwise (· < ·) := by
  unfold freeOf
  refine List.Pairwise.filter _ ?_
  exact List.pairwise_map.mpr (List.pairwise_lt_range.imp fun {a b} h => by omega)
theorem free_row (len : Nat) (sp : List (Nat × Nat)) : RowOk len (freeOf len sp) := ⟨free_asc len sp, fun p hp => ⟨(free_mem.mp hp).1, (free_mem.mp hp).2.1⟩⟩
theorem free_len (len : Nat) (sp : List (Nat × Nat)) : (freeOf len sp).length ≤ len := by
  unfold freeOf
  have := List.length_filter_le (fun a => !barred sp a) ((List.range (len - 1)).map fun k => k + 1)
  simp at this ⊢
  omega
theorem one_piece {h : House} (g : Good5 h) {c : List (List Nat)} {j : Nat} (hj : j < h.n) (hx : crossJ h c j = false) : ∀ l ∈ parts h.adj (others h.n j), ((xsOf h c j).countP fun x => hitL h x l) ≤ 1 := by
  intro l hl
  have pw : (xsOf h c j).Pairwise fun x y => ¬ (hitL h x l = true ∧ hitL h y l = true) := by
    rw [List.pairwise_iff_getElem]
    intro i k hi hk hik ⟨e1, e2⟩
    have : crossJ h c j = true := by
      unfold crossJ crossX
      rw [List.any_eq_true]
      refine ⟨i, by rw [List.mem_range]; exact hi, ?_⟩
      rw [List.any_eq_true]
      refine ⟨k - (i + 1), by rw [List.mem_range]; omega, ?_⟩
      have ee : i + 1 + (k - (i + 1)) = k := by omega
      rw [ee, crossP_iff g hj]
      refine ⟨l, hl, ?_, ?_⟩
      · rw [List.getD_eq_getElem?_getD, List.getElem?_eq_getElem hi]; exact e1
      · rw [List.getD_eq_getElem?_getD, List.getElem?_eq_getElem hk]; exact e2
    rw [this] at hx
    cases hx
  generalize xsOf h c j = xs at pw
  induction xs with
  | nil => simp
  | cons x xs ih =>
    obtain ⟨p1, p2⟩ := List.pairwise_cons.mp pw
    rw [List.countP_cons]
    cases q : hitL h x l with
    | false => simp; exact ih p2
    | true =>
      have : xs.countP (fun x => hitL h x l) = 0 := by
        rw [List.countP_eq_zero]
        intro y hy e
        exact p1 y hy ⟨q, e⟩
      rw [this]
      simp
theorem right_ok {h : House} (g : Good5 h) {c : List (List Nat)} {j : Nat} (hj : j < h.n) (hx : crossJ h c j = false) : RightOk h c j (parts h.adj (others h.n j)) :=
  ⟨(graph_facts g hj).part, one_piece g hj hx, (graph_facts g hj).apart⟩
end Q
set_option autoImplicit false
set_option linter.all false
set_option maxRecDepth 100000
set_option maxHeartbeats 4000000
namespace Q
open PySem
def plB : Nat → D → Bool
  | 0, _ => false
  | _ + 1, .none => true
  | _ + 1, .bool _ => true
  | _ + 1, .int _ => true
  | _ + 1, .str _ => true
  | n + 1, .list xs => decide (xs.length ≤ 1000) && xs.all (plB n)
  | n + 1, .tuple xs => decide (xs.length ≤ 1000) && xs.all (plB n)
  | _ + 1, _ => false
@[simp] theorem eqD_bool (a b : Bool) : eqD (.bool a) (.bool b) = some (decide (a = b)) := by
  rw [eqD_ok rfl rfl]
  congr 1
@[simp] theorem eqD_nil : eqD (.list []) (.list []) = some true := by
  rw [eqD_ok rfl rfl]
  rfl
theorem fmM_nil {α : Type} {f : D → Option (Option D)} {e : α → D} {as : List α} (h : ∀ a ∈ as, f (e a) = some none) : fmM f (as.map e) = some [] := by
  rw [fmM_map (fun _ => none) h]
  simp
theorem c_same : ∀ (m n : Nat), m ≤ n → ∀ d : D, plB m d = true → Ph n ("_law_same" : Str) [d, d] = some (.bool true)
  | 0, _, _, _, h => by cases h
  | m + 1, n, hn, d, h => by
    rw [run_eq (d := d_law_same) (by kernel_rfl) (by omega) _ rfl]
    cases d with
    | none => simp -implicitDefEqProofs [d_law_same, isiD, isTy, isNoD]
    | bool b => simp -implicitDefEqProofs [d_law_same, isiD, isTy, isNoD]
    | int i => simp -implicitDefEqProofs [d_law_same, isiD, isTy, isNoD]
    | str s => simp -implicitDefEqProofs [d_law_same, isiD, isTy, isNoD]
    | list xs =>
      have h2 : xs.length ≤ 1000 ∧ ∀ x ∈ xs, plB m x = true := by simpa [plB] using h
      have e : fmM (turnE (Ph (n - 1)) [2] (.nm 2) true (.not (.call .frz "_law_same" (.cons (.ix (.var 0) (.var 2)) (.cons (.ix (.var 1) (.var 2)) .nil)))) (.var 2) [some (.list xs), some (.list xs), none]) ((List.range xs.length).map fun k => PyData.int (k : Nat)) = some [] := by
        refine fmM_nil fun k hk => ?_
        have hk : k < xs.length := by simpa using hk
        have c := c_same m (n - 1) (by omega) xs[k] (h2.2 _ (List.getElem_mem hk))
        simp -implicitDefEqProofs [turnE, atD_nat, hk, c]
      simp -implicitDefEqProofs [d_law_same, isiD, isTy, isNoD, Option.bind_assoc, rng_nat xs.length (by omega), e]
    | tuple xs =>
      have h2 : xs.length ≤ 1000 ∧ ∀ x ∈ xs, plB m x = true := by simpa [plB] using h
      have e : fmM (turnE (Ph (n - 1)) [2] (.nm 2) true (.not (.call .frz "_law_same" (.cons (.ix (.var 0) (.var 2)) (.cons (.ix (.var 1) (.var 2)) .nil)))) (.var 2) [some (.tuple xs), some (.tuple xs), none]) ((List.range xs.length).map fun k => PyData.int (k : Nat)) = some [] := by
        refine fmM_nil fun k hk => ?_
        have hk : k < xs.length := by simpa using hk
        have c := c_same m (n - 1) (by omega) xs[k] (h2.2 _ (List.getElem_mem hk))
        simp -implicitDefEqProofs [turnE, atD_nat, hk, c]
      simp -implicitDefEqProofs [d_law_same, isiD, isTy, isNoD, Option.bind_assoc, rng_nat xs.length (by omega), e]
    | _ => simp [plB] at h
theorem c_copy : ∀ (m n : Nat), m ≤ n → ∀ d : D, plB m d = true → Ph n ("_law_copy" : Str) [d] = some d
  | 0, _, _, _, h => by cases h
  | m + 1, n, hn, d, h => by
    rw [run_eq (d := d_law_copy) (by kernel_rfl) (by omega) _ rfl]
    cases d with
    | none => simp -implicitDefEqProofs [d_law_copy, isiD, isTy]
    | bool b => simp -implicitDefEqProofs [d_law_copy, isiD, isTy]
    | int i => simp -implicitDefEqProofs [d_law_copy, isiD, isTy]
    | str s => simp -implicitDefEqProofs [d_law_copy, isiD, isTy]
    | list xs =>
      have h2 : xs.length ≤ 1000 ∧ ∀ x ∈ xs, plB m x = true := by simpa [plB] using h
      have e : fmM (turnE (Ph (n - 1)) [1] (.nm 1) false .non (.call .frz "_law_copy" (.cons (.var 1) .nil)) [some (.list xs), none]) (xs.map id) = some (xs.map id) := by
        refine fmM_all _ fun x hx => ?_
        have c := c_copy m (n - 1) (by omega) x (h2.2 x hx)
        simp -implicitDefEqProofs [turnE, c]
      rw [List.map_id] at e
      simp -implicitDefEqProofs [d_law_copy, isiD, isTy, Option.bind_assoc, e]
    | tuple xs =>
      have h2 : xs.length ≤ 1000 ∧ ∀ x ∈ xs, plB m x = true := by simpa [plB] using h
      have e : fmM (turnE (Ph (n - 1)) [1] (.nm 1) false .non (.call .frz "_law_copy" (.cons (.var 1) .nil)) [some (.tuple xs), none]) (xs.map id) = some (xs.map id) := by
        refine fmM_all _ fun x hx => ?_
        have c := c_copy m (n - 1) (by omega) x (h2.2 x hx)
        simp -implicitDefEqProofs [turnE, c]
      rw [List.map_id] at e
      simp -implicitDefEqProofs [d_law_copy, isiD, isTy, Option.bind_assoc, e]
    | _ => simp [plB] at h
end Q
set_option autoImplicit false
set_option linter.all false
set_option maxRecDepth 100000
set_option maxHeartbeats 4000000
namespace Q
open PySem
theorem goF_nil (p : P) (body : Env → Option R) (ρ : Env) : goF p body [] ρ = some (.nx ρ) := by unfold goF; rfl
theorem goF_step {p : P} {body : Env → Option R} {d : D} {ds : List D} {ρ ρ' : Env} (h : (bindP p d ρ).bind body = some (.nx ρ')) : goF p body (d :: ds) ρ = goF p body ds ρ' := by
  conv => lhs; unfold goF
  rw [← Option.bind_assoc, h]
  rfl
def lastR : R → Option R
  | .rt v => some (.rt v)
  | .nx ρ => some (.nx ρ)
  | .ct ρ => some (.nx ρ)
  | .bk ρ => some (.nx ρ)
theorem goF_one (p : P) (body : Env → Option R) (d : D) (ρ : Env) : goF p body [d] ρ = ((bindP p d ρ).bind body).bind lastR := by
  conv => lhs; unfold goF
  rw [Option.bind_assoc]
  congr 1; funext ρ1; congr 1; funext r
  cases r <;> first | rfl | exact goF_nil ..
theorem fmM_one (f : D → Option (Option D)) (d : D) : fmM f [d] = (f d).map Option.toList := by
  unfold fmM
  cases f d with
  | none => rfl
  | some o => cases o <;> rfl
theorem c_law_account {n : Nat} (hn : 1 ≤ n) {h : House} (hm : h.m ≤ 5) {i : Nat} (hi : i < h.m) : Ph n ("_law_account" : Str) [encH h, .str (nm i)] = some (.int (i : Nat)) := by
  rw [run_eq (d := d_law_account) (by kernel_rfl) hn _ rfl]
  have e : fmM (turnE (Ph (n - 1)) [2] (.nm 2) false .non (.ix (.var 2) (.int 0)) [some (encH h), some (.str (nm i)), none]) ((List.range h.m).map (bookD h)) = some ((List.range h.m).map fun k => .str (nm k)) := by
    refine fmM_all _ fun k hk => ?_
    simp -implicitDefEqProofs [turnE, bookD]
  have e2 : indexD ((List.range h.m).map fun k => .str (nm k)) (.str (nm i)) = some (.int (i : Nat)) := by
    unfold indexD
    rw [if_pos (by simp [okD])]
    have : List.findIdx? (fun z => PyData.eqv z (.str (nm i))) ((List.range h.m).map fun k => PyData.str (nm k)) = some i := by
      rw [List.findIdx?_eq_some_iff_getElem]
      refine ⟨by simpa using hi, by simp [PyData.eqv], fun j hj => ?_⟩
      simp [PyData.eqv]
      intro e
      have := nm_eq j i (by omega) (by omega) e
      omega
    rw [this]
    rfl
  simp -implicitDefEqProofs [d_law_account, booksD, Option.bind_assoc, e, e2]
theorem alike_accs : ∀ x y : List Acc, PySem.W.alikeAll (x.map encA) (y.map encA) = true := by
  intro x
  induction x with
  | nil => intro y; simp [PySem.W.alikeAll]
  | cons a x ih =>
    intro y
    cases y with
    | nil => simp [PySem.W.alikeAll]
    | cons b y => simp [PySem.W.alikeAll, PySem.W.alike, ih, encA]
theorem sset_accs (l : List Acc) : biD .sset (.list [encW l]) = some (.list [encW l]) := by
  show gate (hashN 8 (.tuple (l.map encA)) && PySem.W.alike (.tuple (l.map encA)) (.tuple (l.map encA))) _ = _
  have h1 : hashN 8 (.tuple (l.map encA)) = true := by simp [hashN, encA]
  have h2 : PySem.W.alike (.tuple (l.map encA)) (.tuple (l.map encA)) = true := by rw [PySem.W.alike]; exact alike_accs l l
  rw [h1, h2]
  rfl
theorem add_accs (a b : List Acc) (h : a.length + b.length ≤ 1000) : binD .add (encW a) (encW b) = some (encW (a ++ b)) := by
  rw [show encW a = .tuple (a.map encA) from rfl, show encW b = .tuple (b.map encA) from rfl, add_tup _ _ (by simp; omega)]
  simp [encW]
theorem c_law_ways_in {n : Nat} (hn : 2 ≤ n) {h : House} (hm : h.m ≤ 5) {b : List St} (hb : ∀ s ∈ b, okS h.m s) (hl : b.length ≤ 60) : Ph n ("_law_ways_in" : Str) [encH h, bodyD b] = some (.list [encW (accs b)]) := by
  rw [run_eq (d := d_law_ways_in) (by kernel_rfl) (by omega) _ rfl]
  have len1 : ∀ s : St, (accS s).length ≤ 1 := fun s => by cases s <;> simp [accS]
  have t1 : tupD [] = some (encW []) := tupD_0
  have fl : ∀ (as : List St) (acc : List Acc), as.foldl (fun acc s => acc ++ accS s) acc = acc ++ as.flatMap accS := by
    intro as
    induction as with
    | nil => intro acc; simp
    | cons a as ih => intro acc; simp [ih, List.append_assoc]
  simp -implicitDefEqProofs only [d_law_ways_in, exB_cons, ex_asg, bs_cons, bs_nil, ev_lst, evL_cons, evL_nil, ev_tup, t1, Option.bind_some, Option.map_some, lstD_1, stO_eq, ex_for, ev_var, List.map_cons, List.map_nil]
  simp -implicitDefEqProofs [bodyD, Option.bind_assoc]
  refine goF_foldE (Z := fun (o : Option D) => o = some (.list [encW (accs b)])) (as := b) (e := encS) (t := ((none, none, none, none, none) : Option D × Option D × Option D × Option D × Option D))
    (fun (acc : List Acc) t => [some (encH h), some (.tuple (b.map encS)), some (.list [encW acc]), t.1, t.2.1, t.2.2.1, t.2.2.2.1, t.2.2.2.2]) (fun acc s => acc ++ accS s) (fun rest acc => acc.length + rest.length ≤ 60) (s := []) (by simpa using hl) (fun s rest acc t hs hj => ?_) fun t hj => ?_
  · obtain ⟨t1, t2, t3, t4, t5⟩ := t
    have l1 := len1 s
    simp only [List.length_cons] at hj
    refine ⟨?_, by simp; omega⟩
    have ar : ∀ k : Nat, binD .add (encW acc) (.tuple [.tuple [.str (Str.ofString "reads"), .int (k : Int)]]) = some (encW (acc ++ [(false, k)])) := fun k => add_accs acc [(false, k)] (by simp; omega)
    have aw : ∀ k : Nat, binD .add (encW acc) (.tuple [.tuple [.str (Str.ofString "writes"), .int (k : Int)]]) = some (encW (acc ++ [(true, k)])) := fun k => add_accs acc [(true, k)] (by simp; omega)
    have ao : binD .add (encW acc) (.tuple []) = some (encW acc) := by
      have := add_accs acc [] (by simp; omega)
      rwa [List.append_nil] at this
    have ss : ∀ l : List Acc, biD .sset (.list [encW l]) = some (.list [encW l]) := sset_accs
    have e1 : ¬ (Str.ofString "write" = Str.ofString "read") := by decide +kernel
    have e2 : ¬ (Str.ofString "read" = Str.ofString "write") := by decide +kernel
    have e3 : ¬ (Str.ofString "read" = Str.ofString "if") := by decide +kernel
    have e4 : ¬ (Str.ofString "write" = Str.ofString "if") := by decide +kernel
    have al : ∀ x : D, binD .add (.list []) (.list [x]) = some (.list [x]) := fun x => add_list [] [x] (by simp)
    have ok := hb s hs
    cases s with
    | rd v i =>
      have c := c_law_account (n := n - 1) (by omega) hm (show i < h.m from ok)
      refine ⟨(some (encS (.rd v i)), some (.list [.tuple [.tuple [.str (Str.ofString "reads"), .int (i : Int)]]]), some (.list [encW (acc ++ [(false, i)])]), some (encW acc), t5), ?_⟩
      simp -implicitDefEqProofs [encS, e1, e2, e3, e4, c, goF_one, fmM_one, lastR, turnE, ar, aw, ao, ss, al, accS]
    | wr i v =>
      have c := c_law_account (n := n - 1) (by omega) hm (show i < h.m from ok)
      refine ⟨(some (encS (.wr i v)), some (.list [.tuple [.tuple [.str (Str.ofString "writes"), .int (i : Int)]]]), some (.list [encW (acc ++ [(true, i)])]), some (encW acc), t5), ?_⟩
      simp -implicitDefEqProofs [encS, e1, e2, e3, e4, c, goF_one, fmM_one, lastR, turnE, ar, aw, ao, ss, al, accS]
    | ot w r =>
      obtain ⟨h1, h2, h3⟩ := ok
      have h1 : ¬ w = Str.ofString "read" := h1
      have h2 : ¬ w = Str.ofString "write" := h2
      have h3 : ¬ w = Str.ofString "if" := h3
      refine ⟨(some (encS (.ot w r)), some (.list [.tuple []]), some (.list [encW acc]), some (encW acc), t5), ?_⟩
      simp -implicitDefEqProofs [encS, h1, h2, h3, goF_one, fmM_one, lastR, turnE, ar, aw, ao, ss, al, accS]
  · simp -implicitDefEqProofs [fl, accs]
end Q
set_option autoImplicit false
set_option linter.all false
set_option maxRecDepth 100000
set_option maxHeartbeats 4000000
namespace Q
open PySem
theorem c_law_accesses {n : Nat} (hn : 3 ≤ n) {h : House} (hm : h.m ≤ 5) {b : List St} (hb : ∀ s ∈ b, okS h.m s) (hl : b.length ≤ 60) : Ph n ("_law_accesses" : Str) [encH h, bodyD b] = some (encW (accs b)) := by
  rw [run_eq (d := d_law_accesses) (by kernel_rfl) (by omega) _ rfl]
  have c := c_law_ways_in (n := n - 1) (by omega) hm hb hl
  simp -implicitDefEqProofs [d_law_accesses, c]
theorem eqv_accs : ∀ a b : Acc, PyData.eqv (encA a) (encA b) = decide (a = b) := by
  rintro ⟨w, i⟩ ⟨w', i'⟩
  have e : ¬ (Str.ofString "writes" = Str.ofString "reads") := by decide +kernel
  have e' : ¬ (Str.ofString "reads" = Str.ofString "writes") := by decide +kernel
  rw [Bool.eq_iff_iff]
  cases w <;> cases w' <;> simp [encA, PyData.eqv, PyData.eqvAll, e, e'] <;> omega
theorem ok_acc (n : Nat) (a : Acc) : okD (n + 1) (encA a) = true := by simp [encA, okD]
theorem in_accs (a : Acc) (l : List Acc) : inD (encA a) (encW l) = some (decide (a ∈ l)) := by
  have h : (okD 60 (encA a) && (l.map encA).all (okD 60)) = true := by
    simp only [Bool.and_eq_true, List.all_eq_true, List.mem_map]
    refine ⟨ok_acc 59 a, ?_⟩
    rintro x ⟨i, _, rfl⟩
    exact ok_acc 59 i
  show (if okD 60 (encA a) && (l.map encA).all (okD 60) then _ else none) = _
  rw [if_pos h]
  congr 1
  rw [Bool.eq_iff_iff]
  simp only [List.any_map, List.any_eq_true, decide_eq_true_eq, Function.comp, eqv_accs]
  constructor
  · rintro ⟨i, hi, e⟩
    exact e ▸ hi
  · intro h
    exact ⟨a, h, rfl⟩
theorem ne_nil {xs : List D} (h : okD 60 (.list xs) = true) : eqD (.list xs) (.list []) = some xs.isEmpty := by
  rw [eqD_ok h rfl]
  cases xs <;> rfl
def meetL (x y : List Acc) : Bool := x.any fun a => decide ((true, a.2) ∈ y) || (a.1 && decide ((false, a.2) ∈ y))
theorem meetL_eq (x y : List Acc) : meetL x y = meet x y := by
  rw [Bool.eq_iff_iff]
  unfold meetL meet
  simp only [Bool.or_eq_true, List.any_eq_true, Bool.and_eq_true, decide_eq_true_eq, beq_iff_eq, Bool.not_eq_true']
  constructor
  · rintro ⟨⟨w, i⟩, ha, (h | ⟨q, h⟩)⟩
    · cases w with
      | true => exact .inl ⟨(true, i), ha, rfl, (true, i), h, rfl⟩
      | false => exact .inr ⟨(true, i), h, rfl, (false, i), ha, rfl, rfl⟩
    · exact .inl ⟨(w, i), ha, q, (false, i), h, rfl⟩
  · rintro (⟨⟨w, i⟩, ha, q, ⟨w', i'⟩, hb, e⟩ | ⟨⟨w, i⟩, hb, q, ⟨w', i'⟩, ha, q2, e⟩)
    · simp at q e; subst q e
      refine ⟨_, ha, ?_⟩
      cases w' with
      | true => exact .inl hb
      | false => exact .inr ⟨rfl, hb⟩
    · simp at q q2 e; subst q q2 e
      exact ⟨_, ha, .inl hb⟩
theorem fm_empty {α : Type} (l : List α) (p : α → Bool) (e : α → D) : (l.filterMap fun a => if p a then some (e a) else none).isEmpty = !l.any p := by
  induction l with
  | nil => rfl
  | cons a l ih => cases q : p a <;> simp [q, ih]
theorem ok_fm {α : Type} (l : List α) (p : α → Bool) (e : α → D) (h : ∀ a ∈ l, okD 59 (e a) = true) : okD 60 (.list (l.filterMap fun a => if p a then some (e a) else none)) = true := by
  show List.all _ (okD 59) = true
  rw [List.all_eq_true]
  intro x hx
  obtain ⟨a, ha, q⟩ := List.mem_filterMap.mp hx
  cases r : p a <;> simp [r] at q
  exact q ▸ h a ha
theorem c_law_meet {n : Nat} (hn : 1 ≤ n) (x y : List Acc) : Ph n ("_law_meet" : Str) [encW x, encW y] = some (.bool (meet x y)) := by
  rw [run_eq (d := d_law_meet) (by kernel_rfl) (by omega) _ rfl]
  have e := fmM_map (f := turnE (Ph (n - 1)) [2] (.nm 2) true (.or (.cmp .inn (.tup (.cons (.str "writes") (.cons (.ix (.var 2) (.int 1)) .nil))) (.var 1)) (.and (.cmp .eq (.ix (.var 2) (.int 0)) (.str "writes")) (.cmp .inn (.tup (.cons (.str "reads") (.cons (.ix (.var 2) (.int 1)) .nil))) (.var 1)))) (.var 2) [some (encW x), some (encW y), none]) (e := encA) (as := x)
    (fun a : Acc => if (decide ((true, a.2) ∈ y) || (a.1 && decide ((false, a.2) ∈ y))) then some (encA a) else none) fun a ha => by
      obtain ⟨w, i⟩ := a
      have e' : ¬ (Str.ofString "reads" = Str.ofString "writes") := by decide +kernel
      have i1 := in_accs (true, i) y
      have i2 := in_accs (false, i) y
      simp [encA] at i1 i2
      by_cases q1 : (true, i) ∈ y <;> by_cases q2 : (false, i) ∈ y <;> cases w <;> simp -implicitDefEqProofs [turnE, encA, i1, i2, q1, q2, e']
  have e2 := ne_nil (ok_fm x (fun a : Acc => decide ((true, a.2) ∈ y) || (a.1 && decide ((false, a.2) ∈ y))) encA fun a _ => ok_acc 58 a)
  rw [fm_empty] at e2
  rw [← meetL_eq]
  unfold meetL
  generalize (x.filterMap fun a : Acc => if (decide ((true, a.2) ∈ y) || (a.1 && decide ((false, a.2) ∈ y))) then some (encA a) else none) = fm at e e2
  generalize (x.any fun a : Acc => decide ((true, a.2) ∈ y) || (a.1 && decide ((false, a.2) ∈ y))) = b at e2 ⊢
  have it : itemsD (encW x) = some (x.map encA) := rfl
  simp -implicitDefEqProofs [d_law_meet, it, Option.bind_assoc, e, e2]
end Q
set_option autoImplicit false
set_option linter.all false
set_option maxRecDepth 100000
set_option maxHeartbeats 4000000
namespace Q
open PySem
theorem eqv_natsAll : ∀ x y : List Nat, PyData.eqvAll (natsD x) (natsD y) = decide (x = y) := by
  intro x
  induction x with
  | nil => intro y; cases y <;> simp [natsD, PyData.eqvAll]
  | cons a x ih =>
    intro y
    cases y with
    | nil => simp [natsD, PyData.eqvAll]
    | cons b y =>
      have := ih y
      simp only [natsD] at this
      simp only [natsD, List.map_cons, PyData.eqvAll, this, PyData.eqv]
      rw [Bool.eq_iff_iff]
      simp
      omega
theorem eqv_rows (x y : List Nat) : PyData.eqv (rowD x) (rowD y) = decide (x = y) := by
  show PyData.eqv (.list (natsD x)) (.list (natsD y)) = _
  rw [← eqv_natsAll]
  simp only [PyData.eqv]
theorem in_rows (a : List Nat) (l : List (List Nat)) : inD (rowD a) (.list (l.map rowD)) = some (decide (a ∈ l)) := by
  have h : (okD 60 (rowD a) && (l.map rowD).all (okD 60)) = true := by
    simp only [Bool.and_eq_true, List.all_eq_true, List.mem_map]
    refine ⟨okD_row a, ?_⟩
    rintro x ⟨i, _, rfl⟩
    exact okD_row i
  show (if okD 60 (rowD a) && (l.map rowD).all (okD 60) then _ else none) = _
  rw [if_pos h]
  congr 1
  rw [Bool.eq_iff_iff]
  simp only [List.any_map, List.any_eq_true, decide_eq_true_eq, Function.comp, eqv_rows]
  constructor
  · rintro ⟨i, hi, e⟩
    exact e ▸ hi
  · intro h
    exact ⟨a, h, rfl⟩
theorem law_acc {n : Nat} (hn : 3 ≤ n) {h : House} (g : Good5 h) {j : Nat} (hj : j < h.n) : ((ixD (jobsD h.jobs) (.int j)).bind fun x => (ixD x (.int 2)).bind fun y => Ph n ("_law_accesses" : Str) [encH h, y]) = some (encW (h.acc j)) := by
  obtain ⟨x, e1, e2⟩ := ix_job h j hj
  have c := c_law_accesses (n := n) hn g.m (g.ok j) (g.len j)
  rw [e1, Option.bind_some, ix_j2, Option.bind_some, e2, c]
  rfl
theorem fm_row (l : List Nat) (p : Nat → Bool) : (l.filterMap fun k => if p k then some (PyData.int (k : Int)) else none) = natsD (l.filter p) := by
  unfold natsD
  induction l with
  | nil => rfl
  | cons a l ih => cases q : p a <;> simp [q, ih]
theorem fm_rows (l : List (List Nat)) (p : List Nat → Bool) : (l.filterMap fun k => if p k then some (rowD k) else none) = (l.filter p).map rowD := by
  induction l with
  | nil => rfl
  | cons a l ih => cases q : p a <;> simp [q, ih]
theorem any_empty (l : List Nat) (p : Nat → Bool) : (natsD (l.filter p)).isEmpty = !l.any p := by
  rw [← fm_row, fm_empty]
theorem joined_len (M : Nat) : ∀ (l : List (List Nat)) (s : List Nat), (∀ b ∈ l, b.length ≤ M) → (l.foldl (fun j b => j ++ b) s).length ≤ s.length + l.length * M
  | [], s, _ => by simp
  | b :: l, s, h => by
    have := joined_len M l (s ++ b) fun c hc => h c (by simp [hc])
    have h1 := h b (by simp)
    rw [List.foldl_cons]
    refine Nat.le_trans this ?_
    simp only [List.length_append, List.length_cons, Nat.add_mul, Nat.one_mul]
    omega
end Q
set_option autoImplicit false
set_option linter.all false
set_option maxRecDepth 100000
set_option maxHeartbeats 4000000
namespace Q
open PySem
def BunOk (h : House) (rest : List Nat) (found : List (List Nat)) : Prop :=
  found.length + rest.length ≤ 5 ∧ (∀ b ∈ found, ∀ k ∈ b, k < h.n) ∧ ∃ M, 1 ≤ M ∧ (∀ b ∈ found, b.length ≤ M) ∧ M * 6 ^ rest.length ≤ 7776
theorem bun_step {h : House} {o : Nat} {rest : List Nat} {found : List (List Nat)} (ho : o < h.n) (b : BunOk h (o :: rest) found) : BunOk h rest (bunchStep h.adj found o) := by
  obtain ⟨b1, b2, M, m1, m2, m3⟩ := b
  have hp : 1 ≤ 6 ^ rest.length := Nat.one_le_pow _ _ (by omega)
  simp only [List.length_cons] at b1 m3
  have hf : (found.filter fun b => b.any fun k => h.adj o k).length ≤ 5 := Nat.le_trans (List.length_filter_le ..) (by omega)
  refine ⟨?_, fun c hc k hk => ?_, 6 * M, by omega, fun c hc => ?_, ?_⟩
  · unfold bunchStep
    simp only [List.length_append, List.length_cons, List.length_nil]
    have := List.length_filter_le (fun b => !(found.filter fun b => b.any fun k => h.adj o k).contains b) found
    omega
  · rcases bunchStep_mem c hc k hk with e | ⟨d, hd, e⟩
    · exact e ▸ ho
    · exact b2 d hd k e
  · unfold bunchStep at hc
    rcases List.mem_append.mp hc with e | e
    · have := m2 c (List.mem_filter.mp e).1
      omega
    · rw [List.mem_singleton.mp e, isort_len]
      have := joined_len M (found.filter fun b => b.any fun k => h.adj o k) [o] fun b hb => m2 b (List.mem_filter.mp hb).1
      have h5 := Nat.mul_le_mul_right M hf
      simp only [List.length_cons, List.length_nil] at this
      omega
  · rw [Nat.pow_succ] at m3
    rw [Nat.mul_comm 6 M, Nat.mul_assoc, Nat.mul_comm 6]
    exact m3
theorem c_law_bunches {n : Nat} (hn : 5 ≤ n) {h : House} (g : Good5 h) {j : Nat} (hj : j < h.n) : Ph n ("_law_bunches" : Str) [encH h, .int j] = some (.list ((bunches h.adj (others h.n j)).map rowD)) := by
  rw [run_eq (d := d_law_bunches) (by kernel_rfl) (by omega) _ rfl]
  have hjl : h.jobs.length = h.n := rfl
  have hn5 := g.n
  have e0 : fmM (turnE (Ph (n - 1)) [3] (.nm 3) true (.cmp .ne (.var 3) (.var 1)) (.var 3) [some (encH h), some (.int (j : Int)), some (.list []), none, none, none, none, none, none]) ((List.range h.n).map fun k => PyData.int (k : Nat)) = some ((others h.n j).map fun (i : Nat) => PyData.int (i : Int)) := by
    rw [fmM_map (fun i : Nat => if decide (i ≠ j) then some (.int (i : Int)) else none) fun i _ => ?_]
    · rw [fm_row]; rfl
    · by_cases q : i = j
      · simp -implicitDefEqProofs [turnE, q]
      · have q' : ¬ (i : Int) = j := by omega
        simp -implicitDefEqProofs [turnE, q, q']
  simp -implicitDefEqProofs [d_law_bunches, hjl, rng_nat h.n (by omega), e0, Option.bind_assoc]
  refine goF_foldE (Z := fun (o : Option D) => o = some (.list ((bunches h.adj (others h.n j)).map rowD))) (as := others h.n j) (e := fun (k : Nat) => PyData.int (k : Int)) (t := ((none, none, none, none, none, none) : Option D × Option D × Option D × Option D × Option D × Option D))
    (fun (st : List (List Nat)) t => [some (encH h), some (.int (j : Int)), some (.list (st.map rowD)), t.1, t.2.1, t.2.2.1, t.2.2.2.1, t.2.2.2.2.1, t.2.2.2.2.2]) (bunchStep h.adj) (BunOk h) (s := []) ⟨by have := others_len h.n j; simp; omega, by simp, 1, by omega, by simp, ?_⟩ (fun o rest st t ho hb => ?_) fun t hb => ?_
  · have := others_len h.n j
    have : 6 ^ (others h.n j).length ≤ 6 ^ 5 := Nat.pow_le_pow_right (by omega) (by omega)
    omega
  · have ho : o < h.n := others_lt ho
    refine ⟨?_, bun_step ho hb⟩
    obtain ⟨b1, b2, M, m1, m2, m3⟩ := hb
    have hM : M ≤ 7776 := Nat.le_trans (Nat.le_mul_of_pos_right M (Nat.pow_pos (by omega))) m3
    obtain ⟨t1, t2, t3, t4, t5, t6⟩ := t
    obtain ⟨x, e1, e2⟩ := ix_job h o ho
    have c1 := c_law_accesses (n := n - 1) (by omega) g.m (g.ok o) (g.len o)
    rw [← show h.acc o = accs (h.body o) from rfl] at c1
    generalize hmet : (st.filter fun b => b.any fun k => h.adj o k) = met
    have e5 : fmM (turnE (Ph (n - 1)) [7] (.nm 7) true (.cmp .ne (.lc [8] (.nm 8) (.var 7) true (.call .frz "_law_meet" (.cons (.var 4) (.cons (.call .frz "_law_accesses" (.cons (.var 0) (.cons (.ix (.ix (.ix (.var 0) (.int 1)) (.var 8)) (.int 2)) .nil))) .nil))) (.var 8)) (.lst .nil)) (.var 7)
        [some (encH h), some (.int (j : Int)), some (.list (st.map rowD)), some (.int (o : Int)), some (encW (h.acc o)), t3, t4, t5, t6]) (st.map rowD) = some (met.map rowD) := by
      rw [← hmet, ← fm_rows]
      refine fmM_map _ fun b hb => ?_
      have e6 : fmM (turnE (Ph (n - 1)) [8] (.nm 8) true (.call .frz "_law_meet" (.cons (.var 4) (.cons (.call .frz "_law_accesses" (.cons (.var 0) (.cons (.ix (.ix (.ix (.var 0) (.int 1)) (.var 8)) (.int 2)) .nil))) .nil))) (.var 8)
          [some (encH h), some (.int (j : Int)), some (.list (st.map rowD)), some (.int (o : Int)), some (encW (h.acc o)), t3, t4, some (rowD b), t6]) (b.map fun (k : Nat) => PyData.int (k : Int)) = some (natsD (b.filter fun k => h.adj o k)) := by
        rw [← fm_row]
        refine fmM_map _ fun k hk => ?_
        obtain ⟨x2, e3, e4⟩ := ix_job h k (b2 b hb k hk)
        have c2 := c_law_accesses (n := n - 1) (by omega) g.m (g.ok k) (g.len k)
        rw [← show h.acc k = accs (h.body k) from rfl] at c2
        have c3 := c_law_meet (n := n - 1) (by omega) (h.acc o) (h.acc k)
        rw [← show h.adj o k = meet (h.acc o) (h.acc k) from rfl] at c3
        cases q : h.adj o k <;> simp -implicitDefEqProofs [turnE, e3, e4, c2, c3, q]
      have e7 := ne_nil (show okD 60 (.list (natsD (b.filter fun k => h.adj o k))) = true from okD_nats _)
      rw [any_empty] at e7
      have it : itemsD (rowD b) = some (b.map fun (k : Nat) => PyData.int (k : Int)) := rfl
      generalize (natsD (b.filter fun k => h.adj o k)) = fm at e6 e7
      cases q : (b.any fun k => h.adj o k) <;> rw [q] at e7 <;> simp -implicitDefEqProofs [turnE, it, e6, e7]
    have it2 : itemsD (.list (met.map rowD)) = some (met.map rowD) := rfl
    have hml : met.length ≤ 5 := by rw [← hmet]; exact Nat.le_trans (List.length_filter_le ..) (by omega)
    have hmM : ∀ b ∈ met, b.length ≤ M := by rw [← hmet]; exact fun b hb => m2 b (List.mem_filter.mp hb).1
    simp -implicitDefEqProofs [e1, e2, c1, e5, Option.bind_assoc]
    refine goF_fold (Z := fun (r : Option R) => ∃ a b c d e f, r = some (.nx [some (encH h), some (.int (j : Int)), some (.list ((bunchStep h.adj st o).map rowD)), a, b, c, d, e, f])) (as := met) (e := rowD) (y := t5)
      (fun (jo : List Nat) y => [some (encH h), some (.int (j : Int)), some (.list (st.map rowD)), some (.int (o : Int)), some (encW (h.acc o)), some (.list (met.map rowD)), some (.list (natsD jo)), y, t6]) (fun jo b => jo ++ b) (fun rest jo => jo.length + rest.length * 7776 ≤ 100000) (s := [o]) (by simp; omega) (fun b rest jo y hb hj2 => ?_) fun y hj2 => ?_
    · have hbl := hmM b hb
      simp only [List.length_cons] at hj2
      have ad : binD .add (.list (natsD jo)) (rowD b) = some (.list (natsD (jo ++ b))) := by
        rw [show rowD b = .list (natsD b) from rfl, add_list _ _ (by simp [natsD]; omega)]
        simp [natsD]
      refine ⟨?_, by simp; omega⟩
      simp -implicitDefEqProofs [ad]
    · have hs : bunchStep h.adj st o = (st.filter fun b => !met.contains b) ++ [isort (met.foldl (fun j b => j ++ b) [o])] := by
        unfold bunchStep
        rw [← hmet]
      rw [hs]
      generalize met.foldl (fun j b => j ++ b) [o] = jo at hj2 ⊢
      have e8 : fmM (turnE (Ph (n - 1)) [7] (.nm 7) true (.cmp .nin (.var 7) (.var 5)) (.var 7) [some (encH h), some (.int (j : Int)), some (.list (st.map rowD)), some (.int (o : Int)), some (encW (h.acc o)), some (.list (met.map rowD)), some (.list (natsD jo)), y, t6]) (st.map rowD) = some ((st.filter fun b => !met.contains b).map rowD) := by
        rw [← fm_rows]
        refine fmM_map _ fun b hb => ?_
        have i := in_rows b met
        by_cases q : b ∈ met <;> simp -implicitDefEqProofs [turnE, i, q]
      have hf : (st.filter fun b => !met.contains b).length ≤ 5 := Nat.le_trans (List.length_filter_le ..) (by omega)
      generalize (st.filter fun b => !met.contains b) = fs at e8 hf ⊢
      have ad : binD .add (.list (fs.map rowD)) (.list [.list (natsD (isort jo))]) = some (.list ((fs ++ [isort jo]).map rowD)) := by
        rw [add_list _ _ (by simp; omega)]
        simp [rowD]
      simp -implicitDefEqProofs [e8, sorted_nats jo, ad]
  · have hs := sorted_rows ((others h.n j).foldl (bunchStep h.adj) [])
    simp -implicitDefEqProofs [hs]
    rfl
end Q
set_option autoImplicit false
set_option linter.all false
set_option maxRecDepth 100000
set_option maxHeartbeats 4000000
namespace Q
open PySem
def placeB (many : Nat) : D → Bool
  | .int i => decide (0 ≤ i) && decide (i < many)
  | _ => false
theorem c_law_is_place {n : Nat} (hn : 1 ≤ n) (d : D) (hd : noD d = true) (many : Nat) : Ph n ("_law_is_place" : Str) [d, .int (many : Int)] = some (.bool (placeB many d)) := by
  rw [run_eq (d := d_law_is_place) (by kernel_rfl) (by omega) _ rfl]
  cases d with
  | dict _ => cases hd
  | int i =>
    by_cases q : 0 ≤ i <;> simp -implicitDefEqProofs [d_law_is_place, isiD, isTy, placeB, q]
  | _ => simp -implicitDefEqProofs [d_law_is_place, isiD, isTy, placeB]
end Q
set_option autoImplicit false
set_option linter.all false
set_option maxRecDepth 100000
set_option maxHeartbeats 4000000
namespace Q
open PySem
structure Draws (ns : List Nat) : Prop where
  len : ns.length = 120
  lt : ∀ a ∈ ns, a < 1000003
def cellN (ns : List Nat) (k : Nat) : Nat := ns.getD (k % 120) 0 / (1 + k / 120 % 7)
theorem Draws.get {ns : List Nat} (d : Draws ns) (k : Nat) : ns.getD k 0 < 1000003 := by
  rw [List.getD_eq_getElem?_getD]
  cases e : ns[k]? with
  | none => simp
  | some a => exact d.lt a (List.mem_of_getElem? e)
theorem cell_lt {ns : List Nat} (d : Draws ns) (k : Nat) : cellN ns k < 1000003 := Nat.lt_of_le_of_lt (Nat.div_le_self ..) (d.get _)
theorem mod_nat (a b : Nat) (h : 0 < b) : binD .mod (.int (a : Int)) (.int (b : Int)) = some (.int ((a % b : Nat) : Int)) := by
  rw [mod_int _ _ (by omega)]
  rfl
theorem div_nat (a b : Nat) (h : 0 < b) (h2 : b < 1073741824) : binD .fdiv (.int (a : Int)) (.int (b : Int)) = some (.int ((a / b : Nat) : Int)) := by
  rw [fdiv_int _ _ (by omega) (by omega)]
  rfl
theorem c_law_cell {n : Nat} (hn : 1 ≤ n) {ns : List Nat} (d : Draws ns) (k : Nat) : Ph n ("_law_cell" : Str) [.list (natsD ns), .int (k : Int)] = some (.int (cellN ns k : Nat)) := by
  rw [run_eq (d := d_law_cell) (by kernel_rfl) (by omega) _ rfl]
  have hl : (natsD ns).length = 120 := by simp [natsD, d.len]
  have m1 : binD .mod (.int (k : Int)) (.int 120) = some (.int ((k % 120 : Nat) : Int)) := mod_nat k 120 (by omega)
  have d1 : binD .fdiv (.int (k : Int)) (.int 120) = some (.int ((k / 120 : Nat) : Int)) := div_nat k 120 (by omega) (by omega)
  have m2 : binD .mod (.int ((k / 120 : Nat) : Int)) (.int 7) = some (.int ((k / 120 % 7 : Nat) : Int)) := mod_nat _ 7 (by omega)
  have a1 : atD (natsD ns) ((k % 120 : Nat) : Int) = some (.int (ns.getD (k % 120) 0 : Nat)) := at_nats ns _ (by rw [d.len]; omega)
  have d2 : binD .fdiv (.int (ns.getD (k % 120) 0 : Nat)) (.int (1 + ((k / 120 % 7 : Nat) : Int))) = some (.int (cellN ns k : Nat)) := by
    rw [show (1 + ((k / 120 % 7 : Nat) : Int)) = ((1 + k / 120 % 7 : Nat) : Int) by omega]
    exact div_nat _ _ (by omega) (by omega)
  generalize ns.getD (k % 120) 0 = v at *
  generalize (k % 120 : Nat) = a at *
  generalize (k / 120 % 7 : Nat) = b at *
  generalize (k / 120 : Nat) = c at *
  simp -implicitDefEqProofs [d_law_cell, hl, m1, d1, m2, a1, d2]
end Q
set_option autoImplicit false
set_option linter.all false
set_option maxRecDepth 100000
set_option maxHeartbeats 4000000
namespace Q
open PySem
theorem mul_nat (a b : Nat) (h : a < 2 ^ 64 ∨ b < 2 ^ 64) : binD .mul (.int (a : Int)) (.int (b : Int)) = some (.int ((a * b : Nat) : Int)) := by
  rw [mul_int _ _ (by omega)]
  rfl
theorem add_nat (a b : Nat) : binD .add (.int (a : Int)) (.int (b : Int)) = some (.int ((a + b : Nat) : Int)) := rfl
theorem len_draws {ns : List Nat} (d : Draws ns) : biD .len (.list (natsD ns)) = some (.int 120) := by
  rw [len_list]
  simp [natsD, d.len]
def mixO (ns : List Nat) (k : Nat) : Nat := ns.getD (k % 120) 0 * (2 * k + 3) + ns.getD ((7 * k + 5) % 120) 0
def mixN (ns : List Nat) (k : Nat) : Nat := (mixO ns k * 16807 + mixO ns k / 127 + k) % 2147483629 / 16
theorem c_law_mixed {n : Nat} (hn : 1 ≤ n) {ns : List Nat} (d : Draws ns) (k : Nat) (hk : k < 1000) : Ph n ("_law_mixed" : Str) [.list (natsD ns), .int (k : Int)] = some (.int (mixN ns k : Nat)) := by
  rw [run_eq (d := d_law_mixed) (by kernel_rfl) (by omega) _ rfl]
  have hl : biD .len (.list (natsD ns)) = some (.int 120) := len_draws d
  have m1 : binD .mod (.int (k : Int)) (.int 120) = some (.int ((k % 120 : Nat) : Int)) := mod_nat k 120 (by omega)
  have m2 : binD .mul (.int 2) (.int (k : Int)) = some (.int ((2 * k : Nat) : Int)) := mul_nat 2 k (by omega)
  have m3 : binD .mul (.int 7) (.int (k : Int)) = some (.int ((7 * k : Nat) : Int)) := mul_nat 7 k (by omega)
  have p2 : binD .add (.int ((2 * k : Nat) : Int)) (.int 3) = some (.int ((2 * k + 3 : Nat) : Int)) := add_nat _ 3
  have p3 : binD .add (.int ((7 * k : Nat) : Int)) (.int 5) = some (.int ((7 * k + 5 : Nat) : Int)) := add_nat _ 5
  have m4 : binD .mod (.int ((7 * k + 5 : Nat) : Int)) (.int 120) = some (.int (((7 * k + 5) % 120 : Nat) : Int)) := mod_nat _ 120 (by omega)
  have a1 : atD (natsD ns) ((k % 120 : Nat) : Int) = some (.int (ns.getD (k % 120) 0 : Nat)) := at_nats ns _ (by rw [d.len]; omega)
  have a2 : atD (natsD ns) (((7 * k + 5) % 120 : Nat) : Int) = some (.int (ns.getD ((7 * k + 5) % 120) 0 : Nat)) := at_nats ns _ (by rw [d.len]; omega)
  have g1 := d.get (k % 120)
  have g2 := d.get ((7 * k + 5) % 120)
  have m5 : binD .mul (.int (ns.getD (k % 120) 0 : Nat)) (.int ((2 * k + 3 : Nat) : Int)) = some (.int ((ns.getD (k % 120) 0 * (2 * k + 3) : Nat) : Int)) := mul_nat _ _ (by omega)
  have p4 : binD .add (.int ((ns.getD (k % 120) 0 * (2 * k + 3) : Nat) : Int)) (.int (ns.getD ((7 * k + 5) % 120) 0 : Nat)) = some (.int ((mixO ns k : Nat) : Int)) := add_nat _ _
  have m6 : binD .mul (.int ((mixO ns k : Nat) : Int)) (.int 16807) = some (.int ((mixO ns k * 16807 : Nat) : Int)) := mul_nat _ 16807 (by omega)
  have d7 : binD .fdiv (.int ((mixO ns k : Nat) : Int)) (.int 127) = some (.int ((mixO ns k / 127 : Nat) : Int)) := div_nat _ 127 (by omega) (by omega)
  have p8 : binD .add (.int ((mixO ns k * 16807 : Nat) : Int)) (.int ((mixO ns k / 127 : Nat) : Int)) = some (.int ((mixO ns k * 16807 + mixO ns k / 127 : Nat) : Int)) := add_nat _ _
  have p9 : binD .add (.int ((mixO ns k * 16807 + mixO ns k / 127 : Nat) : Int)) (.int (k : Int)) = some (.int ((mixO ns k * 16807 + mixO ns k / 127 + k : Nat) : Int)) := add_nat _ _
  have m9 : binD .mod (.int ((mixO ns k * 16807 + mixO ns k / 127 + k : Nat) : Int)) (.int 2147483629) = some (.int (((mixO ns k * 16807 + mixO ns k / 127 + k) % 2147483629 : Nat) : Int)) := mod_nat _ 2147483629 (by omega)
  have dd : binD .fdiv (.int (((mixO ns k * 16807 + mixO ns k / 127 + k) % 2147483629 : Nat) : Int)) (.int 16) = some (.int (mixN ns k : Nat)) := div_nat _ 16 (by omega) (by omega)
  generalize (mixO ns k * 16807 + mixO ns k / 127 + k) % 2147483629 = z1 at *
  generalize mixO ns k * 16807 + mixO ns k / 127 + k = z2 at *
  generalize mixO ns k * 16807 + mixO ns k / 127 = z3 at *
  generalize mixO ns k * 16807 = z4 at *
  generalize mixO ns k / 127 = z5 at *
  generalize mixO ns k = z6 at *
  generalize ns.getD (k % 120) 0 * (2 * k + 3) = z7 at *
  generalize ns.getD ((7 * k + 5) % 120) 0 = z8 at *
  generalize ns.getD (k % 120) 0 = z9 at *
  generalize (7 * k + 5) % 120 = y1 at *
  generalize 7 * k + 5 = y2 at *
  generalize 2 * k + 3 = y3 at *
  generalize 7 * k = y4 at *
  generalize 2 * k = y5 at *
  generalize k % 120 = y6 at *
  simp -implicitDefEqProofs only [d_law_mixed, bs_cons, bs_nil, exB_cons, exB_nil, ex_asg, ex_ret, ev_bin, ev_ix, ev_bi, ev_var, ev_int, List.map_cons, List.map_nil, List.length_cons, List.length_nil, List.replicate, List.cons_append, List.nil_append, List.getElem?_cons_zero, List.getElem?_cons_succ, Option.join_some, Option.bind_some, Option.map_some, hl, ix_list, thenR_nx, thenR_rt, endR_rt, stO_eq, List.set_cons_succ, List.set_cons_zero, Nat.reduceSub, Nat.reduceAdd, Nat.reduceLT, if_true, m1, m2, m3, p2, p3, m4, a1, a2, m5, p4, m6, d7, p8, p9, m9, dd]
end Q
set_option autoImplicit false
set_option linter.all false
set_option maxRecDepth 100000
set_option maxHeartbeats 4000000
namespace Q
open PySem
theorem at_five (a b c d e : D) (k : Nat) (hk : k < 5) : ∃ x, atD [a, b, c, d, e] (k : Int) = some x ∧ (x = a ∨ x = b ∨ x = c ∨ x = d ∨ x = e) := by
  rw [atD_nat]
  match k, hk with
  | 0, _ => exact ⟨a, rfl, .inl rfl⟩
  | 1, _ => exact ⟨b, rfl, .inr (.inl rfl)⟩
  | 2, _ => exact ⟨c, rfl, .inr (.inr (.inl rfl))⟩
  | 3, _ => exact ⟨d, rfl, .inr (.inr (.inr (.inl rfl)))⟩
  | 4, _ => exact ⟨e, rfl, .inr (.inr (.inr (.inr rfl)))⟩
theorem c_law_rule {n : Nat} (hn : 2 ≤ n) {ns : List Nat} (d : Draws ns) (k : Nat) : ∃ r : Str, Ph n ("_law_rule" : Str) [.list (natsD ns), .int (k : Int)] = some (.str r) := by
  rw [run_eq (d := d_law_rule) (by kernel_rfl) (by omega) _ rfl]
  have c := c_law_cell (n := n - 1) (by omega) d k
  have d1 : binD .fdiv (.int (cellN ns k : Nat)) (.int 3) = some (.int ((cellN ns k / 3 : Nat) : Int)) := div_nat _ 3 (by omega) (by omega)
  have m1 : binD .mod (.int ((cellN ns k / 3 : Nat) : Int)) (.int 5) = some (.int ((cellN ns k / 3 % 5 : Nat) : Int)) := mod_nat _ 5 (by omega)
  have hk : cellN ns k / 3 % 5 < 5 := by omega
  obtain ⟨x, a1, hx⟩ := at_five (.str (Str.ofString "latest")) (.str (Str.ofString "picture")) (.str (Str.ofString "alone")) (.str (Str.ofString "latest")) (.str (Str.ofString "picture")) _ hk
  generalize cellN ns k / 3 % 5 = z at *
  generalize cellN ns k / 3 = z2 at *
  have hs : ∃ r, x = .str r := by rcases hx with h | h | h | h | h <;> exact ⟨_, h⟩
  obtain ⟨r, rfl⟩ := hs
  refine ⟨r, ?_⟩
  simp -implicitDefEqProofs [d_law_rule, c, d1, m1, a1]
end Q
set_option autoImplicit false
set_option linter.all false
set_option maxRecDepth 100000
set_option maxHeartbeats 4000000
namespace Q
open PySem
def cutP (c p : Nat) : Bool := decide (c % 5 = 1) || (decide (1 < c % 5) && decide (c / 5 / (p * p + 1) % 3 = 0))
def drawRow (ns : List Nat) (k len : Nat) : List Nat := ((List.range (len - 1)).map fun i => i + 1).filter fun p => cutP (mixN ns k) p
def drawCuts (ns : List Nat) (a : Nat) (h : House) : List (List Nat) := (List.range h.n).map fun j => drawRow ns (a + j) (h.body j).length
theorem draw_row (ns : List Nat) (k len : Nat) : RowOk len (drawRow ns k len) := by
  unfold drawRow
  refine ⟨List.Pairwise.filter _ ?_, fun p hp => ?_⟩
  · rw [List.pairwise_map]
    exact List.pairwise_lt_range.imp fun h => by omega
  · have := (List.mem_filter.mp hp).1
    obtain ⟨i, hi, rfl⟩ := List.mem_map.mp this
    have := List.mem_range.mp hi
    omega
theorem turn_cut {n : Nat} {c len : Nat} (ρ0 : D) (ρ1 : D) (ρ2 : D) (ρ3 : D) (ρ4 : D) (o : Option D) (hl : len ≤ 60) : fmM (turnE (Ph n) [6] (.nm 6) true (.or (.cmp .eq (.bin .mod (.var 5) (.int 5)) (.int 1)) (.and (.cmp .gt (.bin .mod (.var 5) (.int 5)) (.int 1)) (.cmp .eq (.bin .mod (.bin .fdiv (.bin .fdiv (.var 5) (.int 5)) (.bin .add (.bin .mul (.var 6) (.var 6)) (.int 1))) (.int 3)) (.int 0)))) (.var 6)
    [some ρ0, some ρ1, some ρ2, some ρ3, some ρ4, some (.int (c : Int)), o]) ((List.range (len - 1)).map fun (k : Nat) => PyData.int ((k : Int) + 1)) = some (natsD (((List.range (len - 1)).map fun i => i + 1).filter fun p => cutP c p)) := by
  rw [fmM_map (fun k : Nat => if cutP c (k + 1) then some (.int ((k + 1 : Nat) : Int)) else none) fun k hk => ?_]
  · rw [← fm_row, List.filterMap_map]
    rfl
  · have hk : k < len - 1 := by simpa using hk
    have m1 : binD .mod (.int (c : Int)) (.int 5) = some (.int ((c % 5 : Nat) : Int)) := mod_nat c 5 (by omega)
    have d1 : binD .fdiv (.int (c : Int)) (.int 5) = some (.int ((c / 5 : Nat) : Int)) := div_nat c 5 (by omega) (by omega)
    have hq : (k + 1) * (k + 1) ≤ 60 * 60 := Nat.mul_le_mul (by omega) (by omega)
    have m2 : binD .mul (.int ((k : Int) + 1)) (.int ((k : Int) + 1)) = some (.int (((k + 1) * (k + 1) : Nat) : Int)) := mul_nat (k + 1) (k + 1) (by omega)
    have p2 : binD .add (.int (((k + 1) * (k + 1) : Nat) : Int)) (.int 1) = some (.int (((k + 1) * (k + 1) + 1 : Nat) : Int)) := add_nat _ 1
    have d2 : binD .fdiv (.int ((c / 5 : Nat) : Int)) (.int (((k + 1) * (k + 1) + 1 : Nat) : Int)) = some (.int ((c / 5 / ((k + 1) * (k + 1) + 1) : Nat) : Int)) := div_nat _ _ (by omega) (by omega)
    have m3 : binD .mod (.int ((c / 5 / ((k + 1) * (k + 1) + 1) : Nat) : Int)) (.int 3) = some (.int ((c / 5 / ((k + 1) * (k + 1) + 1) % 3 : Nat) : Int)) := mod_nat _ 3 (by omega)
    unfold cutP
    generalize c / 5 / ((k + 1) * (k + 1) + 1) % 3 = z1 at *
    generalize c / 5 / ((k + 1) * (k + 1) + 1) = z2 at *
    generalize (k + 1) * (k + 1) + 1 = z3 at *
    generalize (k + 1) * (k + 1) = z4 at *
    generalize c / 5 = z5 at *
    generalize c % 5 = z6 at *
    by_cases q1 : z6 = 1
    · subst q1
      simp -implicitDefEqProofs [turnE, m1]
    · by_cases q2 : 1 < z6
      · have q1' : ¬ (z6 : Int) = 1 := by omega
        have q2' : (1 : Int) < z6 := by omega
        by_cases q3 : z1 = 0
        · subst q3
          simp -implicitDefEqProofs [turnE, m1, d1, m2, p2, d2, m3, q1, q1', q2, q2']
        · have q3' : ¬ (z1 : Int) = 0 := by omega
          simp -implicitDefEqProofs [turnE, m1, d1, m2, p2, d2, m3, q1, q1', q2, q2', q3, q3']
      · have q1' : ¬ (z6 : Int) = 1 := by omega
        have q2' : ¬ (1 : Int) < z6 := by omega
        simp -implicitDefEqProofs [turnE, m1, q1, q1', q2, q2']
theorem c_law_cuts {n : Nat} (hn : 2 ≤ n) {h : House} (g : Good5 h) {ns : List Nat} (d : Draws ns) (a : Nat) (ha : a < 900) : Ph n ("_law_cuts" : Str) [.list (natsD ns), .int (a : Int), encH h] = some (cutsD (drawCuts ns a h)) := by
  rw [run_eq (d := d_law_cuts) (by kernel_rfl) (by omega) _ rfl]
  have hjl : h.jobs.length = h.n := rfl
  have hn5 := g.n
  simp -implicitDefEqProofs [d_law_cuts, hjl, rng_nat h.n (by omega), Option.bind_assoc]
  refine goF_foldE (Z := fun (o : Option D) => o = some (cutsD (drawCuts ns a h))) (as := List.range h.n) (e := fun (k : Nat) => PyData.int (k : Int)) (t := ((none, none, none) : Option D × Option D × Option D))
    (fun (st : List (List Nat)) t => [some (.list (natsD ns)), some (.int (a : Int)), some (encH h), some (.list (st.map rowD)), t.1, t.2.1, t.2.2]) (fun st j => st ++ [drawRow ns (a + j) (h.body j).length]) (fun rest st => st.length + rest.length ≤ 5) (s := []) (by simp; omega) (fun j rest st t hj hj2 => ?_) fun t hj2 => ?_
  · have hj : j < h.n := by simpa using hj
    obtain ⟨x, e1, e2⟩ := ix_job h j hj
    have hb60 := g.len j
    have hst : st.length < 16777216 := by simp at hj2; omega
    obtain ⟨t1, t2, t3⟩ := t
    have c := c_law_mixed (n := n - 1) (by omega) d (a + j) (by omega)
    rw [Int.natCast_add] at c
    have hr := rng_one (h.body j).length (by omega)
    have tc := turn_cut (n := n - 1) (c := mixN ns (a + j)) (len := (h.body j).length) (.list (natsD ns)) (.int (a : Int)) (encH h) (.list (st.map rowD)) (.int (j : Int)) t3 hb60
    rw [show (((List.range ((h.body j).length - 1)).map fun i => i + 1).filter fun p => cutP (mixN ns (a + j)) p) = drawRow ns (a + j) (h.body j).length from rfl] at tc
    refine ⟨?_, by simp at hj2 ⊢; omega⟩
    generalize drawRow ns (a + j) (h.body j).length = dr at *
    simp -implicitDefEqProofs [c, e1, e2, hr, tc, hst, rowD]
  · have e : ∀ (l : List Nat) (s : List (List Nat)), l.foldl (fun st j => st ++ [drawRow ns (a + j) (h.body j).length]) s = s ++ l.map fun j => drawRow ns (a + j) (h.body j).length := by
      intro l
      induction l with
      | nil => intro s; simp
      | cons b l ih => intro s; rw [List.foldl_cons, ih]; simp
    rw [e]
    simp -implicitDefEqProofs [cutsD, drawCuts]
end Q
set_option autoImplicit false
set_option linter.all false
set_option maxRecDepth 100000
set_option maxHeartbeats 4000000
namespace Q
open PySem
def oddL : List D := [.none, .bool true, .bool false, .int 0, .int 1, .int (-1), .str ("" : Str), .str ("right" : Str), .str ("crossed" : Str), .tuple [], .list [], .list [.list []], .tuple [.tuple []], .list [.none], .tuple [.str ("right" : Str)], .list [.str ("right" : Str), .list []], .tuple [.str ("crossed" : Str), .int 0, .int 0, .int 1], .tuple [.str ("right" : Str), .none], .tuple [.str ("right" : Str), .list [], .list []], .list [.list [.list [.list [.list [.int 0]]]]]]
theorem c_law_odd {n : Nat} (hn : 1 ≤ n) : Ph n ("_law_odd_values" : Str) [] = some (.list oddL) := by
  rw [run_eq (d := d_law_odd_values) (by kernel_rfl) (by omega) _ rfl]
  have l : lstD oddL = some (.list oddL) := lstD_ok (by decide)
  unfold oddL at l
  simp -implicitDefEqProofs [d_law_odd_values, l, oddL]
theorem odd_plain : oddL.all (plB 7) = true := by decide +kernel
theorem odd_noD3 : oddL.all noD3 = true := by decide +kernel
end Q
set_option autoImplicit false
set_option linter.all false
set_option maxRecDepth 100000
set_option maxHeartbeats 4000000
namespace Q
open PySem
theorem fmM_cons1 {f : D → Option (Option D)} {d x : D} {ds : List D} (h : f d = some (some x)) : fmM f (d :: ds) = (fmM f ds).map (x :: ·) := by
  conv => lhs; unfold fmM
  rw [h]; rfl
theorem fmM_0 (f : D → Option (Option D)) : fmM f [] = some [] := rfl
theorem at_three (a b c : D) (k : Nat) (hk : k < 3) : ∃ x, atD [a, b, c] (k : Int) = some x ∧ (x = a ∨ x = b ∨ x = c) := by
  rw [atD_nat]
  match k, hk with
  | 0, _ => exact ⟨a, rfl, .inl rfl⟩
  | 1, _ => exact ⟨b, rfl, .inr (.inl rfl)⟩
  | 2, _ => exact ⟨c, rfl, .inr (.inr rfl)⟩
theorem var_at (c w : Nat) (hw : 0 < w) (hw2 : w < 1000) : ∃ v : Str, ((binD .fdiv (.int (c : Int)) (.int (w : Int))).bind fun x => (binD .mod x (.int 3)).bind fun y => ixD (.list [.str (Str.ofString "va"), .str (Str.ofString "vb"), .str (Str.ofString "vc")]) y) = some (.str v) := by
  rw [div_nat c w hw (by omega), Option.bind_some, show (3 : Int) = ((3 : Nat) : Int) from rfl, mod_nat _ 3 (by omega), Option.bind_some, ix_list]
  obtain ⟨x, e, hx⟩ := at_three (.str (Str.ofString "va")) (.str (Str.ofString "vb")) (.str (Str.ofString "vc")) (c / w % 3) (by omega)
  rw [e]
  rcases hx with h | h | h <;> exact ⟨_, congrArg some h⟩
theorem nm_at (k : Nat) (hk : k < 5) : atD [.str (Str.ofString "xa"), .str (Str.ofString "xb"), .str (Str.ofString "xc"), .str (Str.ofString "xd"), .str (Str.ofString "xe")] (k : Int) = some (.str (nm k)) := by
  rw [atD_nat]
  match k, hk with
  | 0, _ => rfl
  | 1, _ => rfl
  | 2, _ => rfl
  | 3, _ => rfl
  | 4, _ => rfl
theorem c_law_simple {n : Nat} (hn : 2 ≤ n) {ns : List Nat} (d : Draws ns) (k m : Nat) (hm : 1 ≤ m) (hm5 : m ≤ 5) : ∃ s, Ph n ("_law_simple" : Str) [.list (natsD ns), .int (k : Int), .int (m : Int)] = some (encS s) ∧ okS m s := by
  rw [run_eq (d := d_law_simple) (by kernel_rfl) (by omega) _ rfl]
  have c := c_law_cell (n := n - 1) (by omega) d k
  have hc := cell_lt d k
  generalize cellN ns k = ce at c hc
  obtain ⟨v1, w1⟩ := var_at ce 7 (by omega) (by omega)
  obtain ⟨v2, w2⟩ := var_at ce 21 (by omega) (by omega)
  obtain ⟨v3, w3⟩ := var_at ce 63 (by omega) (by omega)
  have l3 : lstD [.str (Str.ofString "va"), .str (Str.ofString "vb"), .str (Str.ofString "vc")] = some (.list [.str (Str.ofString "va"), .str (Str.ofString "vb"), .str (Str.ofString "vc")]) := lstD_3 ..
  have e3 : fmM (turnE (Ph (n - 1)) [9] (.nm 9) false .non (.ix (.lst (.cons (.str "va") (.cons (.str "vb") (.cons (.str "vc") .nil)))) (.bin .mod (.bin .fdiv (.var 3) (.var 9)) (.int 3))) [some (.list (natsD ns)), some (.int (k : Int)), some (.int (m : Int)), some (.int (ce : Int)), none, none, none, none, none, none]) [.int 7, .int 21, .int 63] = some [.str v1, .str v2, .str v3] := by
    have f1 := fun (w : Int) (v : Str) (hv : ((binD .fdiv (.int (ce : Int)) (.int w)).bind fun x => (binD .mod x (.int 3)).bind fun y => ixD (.list [.str (Str.ofString "va"), .str (Str.ofString "vb"), .str (Str.ofString "vc")]) y) = some (.str v)) =>
      show turnE (Ph (n - 1)) [9] (.nm 9) false .non (.ix (.lst (.cons (.str "va") (.cons (.str "vb") (.cons (.str "vc") .nil)))) (.bin .mod (.bin .fdiv (.var 3) (.var 9)) (.int 3))) [some (.list (natsD ns)), some (.int (k : Int)), some (.int (m : Int)), some (.int (ce : Int)), none, none, none, none, none, none] (.int w) = some (some (.str v)) by
        simp -implicitDefEqProofs [turnE, Option.bind_assoc]
        rw [← Option.map_bind]
        exact congrArg (Option.map some) hv
    rw [fmM_cons1 (f1 7 v1 w1), fmM_cons1 (f1 21 v2 w2), fmM_cons1 (f1 63 v3 w3), fmM_0]
    rfl
  have d11 : binD .fdiv (.int (ce : Int)) (.int 11) = some (.int ((ce / 11 : Nat) : Int)) := div_nat ce 11 (by omega) (by omega)
  have mm : binD .mod (.int ((ce / 11 : Nat) : Int)) (.int (m : Int)) = some (.int ((ce / 11 % m : Nat) : Int)) := mod_nat _ m (by omega)
  have hb : ce / 11 % m < m := Nat.mod_lt _ (by omega)
  have nb := nm_at (ce / 11 % m) (by omega)
  have m13 : binD .mod (.int (ce : Int)) (.int 13) = some (.int ((ce % 13 : Nat) : Int)) := mod_nat ce 13 (by omega)
  have h13 : ce % 13 < 13 := by omega
  generalize ce / 11 % m = bo at *
  generalize ce / 11 = z1 at *
  generalize ce % 13 = ki at *
  simp -implicitDefEqProofs [d_law_simple, c, e3, d11, mm, nb, m13, Option.bind_assoc]

  have d13 : binD .fdiv (.int (ce : Int)) (.int 13) = some (.int ((ce / 13 : Nat) : Int)) := div_nat ce 13 (by omega) (by omega)
  have m9 : binD .mod (.int ((ce / 13 : Nat) : Int)) (.int 9) = some (.int ((ce / 13 % 9 : Nat) : Int)) := mod_nat _ 9 (by omega)
  have m2 : binD .mod (.int ((ce / 13 : Nat) : Int)) (.int 2) = some (.int ((ce / 13 % 2 : Nat) : Int)) := mod_nat _ 2 (by omega)
  have m3 : binD .mod (.int ((ce / 13 : Nat) : Int)) (.int 3) = some (.int ((ce / 13 % 3 : Nat) : Int)) := mod_nat _ 3 (by omega)
  have b2 : ce / 13 % 2 = 0 ∨ ce / 13 % 2 = 1 := by omega
  have b3 : ce / 13 % 3 = 0 ∨ ce / 13 % 3 = 1 ∨ ce / 13 % 3 = 2 := by omega
  generalize ce / 13 % 2 = k2 at *
  generalize ce / 13 % 3 = k3 at *
  generalize ce / 13 % 9 = k9 at *
  generalize ce / 13 = z13 at *
  have hk : ki = 0 ∨ ki = 1 ∨ ki = 2 ∨ ki = 3 ∨ ki = 4 ∨ ki = 5 ∨ ki = 6 ∨ ki = 7 ∨ ki = 8 ∨ ki = 9 ∨ ki = 10 ∨ ki = 11 ∨ ki = 12 := by omega
  rcases hk with rfl | rfl | rfl | rfl | rfl | rfl | rfl | rfl | rfl | rfl | rfl | rfl | rfl
  iterate 3 exact ⟨.rd v1 bo, by simp -implicitDefEqProofs [encS], hb⟩
  iterate 3 exact ⟨.wr bo v1, by simp -implicitDefEqProofs [encS], hb⟩
  · exact ⟨.ot (Str.ofString "num") [.str v1, .int ((k9 : Int) - 3)], by simp -implicitDefEqProofs [encS, d13, m9], ⟨by decide +kernel, by decide +kernel, by decide +kernel⟩⟩
  · exact ⟨.ot (Str.ofString "copy") [.str v1, .str v2], by simp -implicitDefEqProofs [encS], ⟨by decide +kernel, by decide +kernel, by decide +kernel⟩⟩
  · exact ⟨.ot (Str.ofString "add") [.str v1, .str v2, .str v3], by simp -implicitDefEqProofs [encS], ⟨by decide +kernel, by decide +kernel, by decide +kernel⟩⟩
  · exact ⟨.ot (Str.ofString "sub") [.str v1, .str v2, .str v3], by simp -implicitDefEqProofs [encS], ⟨by decide +kernel, by decide +kernel, by decide +kernel⟩⟩
  · rcases b2 with rfl | rfl
    · exact ⟨.ot (Str.ofString "less") [.str v1, .str v2, .str v3], by simp -implicitDefEqProofs [encS, d13, m2], ⟨by decide +kernel, by decide +kernel, by decide +kernel⟩⟩
    · exact ⟨.ot (Str.ofString "same") [.str v1, .str v2, .str v3], by simp -implicitDefEqProofs [encS, d13, m2], ⟨by decide +kernel, by decide +kernel, by decide +kernel⟩⟩
  · exact ⟨.ot (Str.ofString "say") [.str v1], by simp -implicitDefEqProofs [encS], ⟨by decide +kernel, by decide +kernel, by decide +kernel⟩⟩
  · rcases b3 with rfl | rfl | rfl
    · exact ⟨.ot (Str.ofString "need") [.str v1], by simp -implicitDefEqProofs [encS, d13, m3], ⟨by decide +kernel, by decide +kernel, by decide +kernel⟩⟩
    · exact ⟨.ot (Str.ofString "skip") [], by simp -implicitDefEqProofs [encS, d13, m3], ⟨by decide +kernel, by decide +kernel, by decide +kernel⟩⟩
    · exact ⟨.ot (Str.ofString "add") [.str v1, .str v1, .str v2], by simp -implicitDefEqProofs [encS, d13, m3], ⟨by decide +kernel, by decide +kernel, by decide +kernel⟩⟩
end Q
set_option autoImplicit false
set_option linter.all false
set_option maxRecDepth 100000
set_option maxHeartbeats 4000000
namespace Q
open PySem
theorem c_law_statement {n : Nat} (hn : 3 ≤ n) {ns : List Nat} (d : Draws ns) (k m : Nat) (hm : 1 ≤ m) (hm5 : m ≤ 5) : ∃ s, Ph n ("_law_statement" : Str) [.list (natsD ns), .int (k : Int), .int (m : Int), .bool false] = some (encS s) ∧ okS m s := by
  rw [run_eq (d := d_law_statement) (by kernel_rfl) (by omega) _ rfl]
  have c := c_law_cell (n := n - 1) (by omega) d (k + 7)
  rw [Int.natCast_add] at c
  have c : Ph (n - 1) (Str.ofString "_law_cell") [.list (natsD ns), .int ((k : Int) + 7)] = some (.int (cellN ns (k + 7) : Nat)) := c
  obtain ⟨s, e, ok⟩ := c_law_simple (n := n - 1) (by omega) d k m hm hm5
  refine ⟨s, ?_, ok⟩
  simp -implicitDefEqProofs [d_law_statement, c, e]
end Q
set_option autoImplicit false
set_option linter.all false
set_option maxRecDepth 100000
set_option maxHeartbeats 4000000
namespace Q
open PySem
theorem fmM_ex {α σ : Type} {f : D → Option (Option D)} {e : α → D} {enc : σ → D} {P : σ → Prop} : ∀ {as : List α}, (∀ a ∈ as, ∃ s, P s ∧ f (e a) = some (some (enc s))) → ∃ ss : List σ, ss.length = as.length ∧ (∀ s ∈ ss, P s) ∧ fmM f (as.map e) = some (ss.map enc)
  | [], _ => ⟨[], rfl, by simp, rfl⟩
  | a :: as, h => by
    obtain ⟨s, hp, hs⟩ := h a (by simp)
    obtain ⟨ss, h1, h2, h3⟩ := fmM_ex (as := as) fun b hb => h b (by simp [hb])
    refine ⟨s :: ss, by simp [h1], by simpa using ⟨hp, h2⟩, ?_⟩
    rw [List.map_cons, fmM_cons1 hs, h3]
    rfl
end Q
set_option autoImplicit false
set_option linter.all false
set_option maxRecDepth 100000
set_option maxHeartbeats 4000000
namespace Q
open PySem
structure HouseOk (h : House) (m jobs most : Nat) : Prop where
  em : h.m = m
  n : h.jobs.length = jobs
  ok : ∀ x ∈ h.jobs, x.2.2.length ≤ most ∧ ∀ s ∈ x.2.2, okS m s
theorem HouseOk.good {h : House} {m jobs most : Nat} (k : HouseOk h m jobs most) (hm : m ≤ 5) (hj : jobs ≤ 5) (hmost : most ≤ 60) : Good5 h := by
  have hb : ∀ j, (h.body j).length ≤ most ∧ ∀ s ∈ h.body j, okS m s := by
    intro j
    unfold House.body
    cases e : h.jobs[j]? with
    | none => simp
    | some x => simpa using k.ok x (List.mem_of_getElem? e)
  exact ⟨by rw [k.em]; exact hm, by unfold House.n; rw [k.n]; exact hj, fun j => Nat.le_trans (hb j).1 hmost, fun j s hs => by rw [k.em]; exact (hb j).2 s hs⟩
def jnm (i : Nat) : Str := (["ja", "jb", "jc", "jd", "je"] : List Str).getD i ("" : Str)
theorem jnm_at (k : Nat) (hk : k < 5) : atD [.str (Str.ofString "ja"), .str (Str.ofString "jb"), .str (Str.ofString "jc"), .str (Str.ofString "jd"), .str (Str.ofString "je")] (k : Int) = some (.str (jnm k)) := by
  rw [atD_nat]
  match k, hk with
  | 0, _ => rfl
  | 1, _ => rfl
  | 2, _ => rfl
  | 3, _ => rfl
  | 4, _ => rfl
def drawF (ns : List Nat) (a i : Nat) : Int := ((cellN ns (a + i) % 9 : Nat) : Int) - 2
theorem c_books {n : Nat} (hn : 1 ≤ n) {ns : List Nat} (d : Draws ns) (a m : Nat) (hm5 : m ≤ 5) (i : Nat) (hi : i < m) : (Ph n (Str.ofString "_law_cell") [.list (natsD ns), .int ((a : Int) + (i : Int))]).bind (fun x => (binD .mod x (.int 9)).bind fun y => binD .sub y (.int 2)) = some (.int (drawF ns a i)) := by
  have c := c_law_cell (n := n) hn d (a + i)
  rw [Int.natCast_add] at c
  have c : Ph n (Str.ofString "_law_cell") [.list (natsD ns), .int ((a : Int) + (i : Int))] = some (.int (cellN ns (a + i) : Nat)) := c
  rw [c, Option.bind_some, show (9 : Int) = ((9 : Nat) : Int) from rfl, mod_nat _ 9 (by omega)]
  rfl
end Q
set_option autoImplicit false
set_option linter.all false
set_option maxRecDepth 100000
set_option maxHeartbeats 4000000
namespace Q
open PySem
theorem lst5 : lstD [.str (Str.ofString "xa"), .str (Str.ofString "xb"), .str (Str.ofString "xc"), .str (Str.ofString "xd"), .str (Str.ofString "xe")] = some (.list [.str (Str.ofString "xa"), .str (Str.ofString "xb"), .str (Str.ofString "xc"), .str (Str.ofString "xd"), .str (Str.ofString "xe")]) := lstD_5 ..
theorem c_law_house {n : Nat} (hn : 4 ≤ n) {ns : List Nat} (d : Draws ns) (a m jobs most : Nat) (hm : 1 ≤ m) (hm5 : m ≤ 5) (hj : jobs ≤ 5) (hmost : most ≤ 20) : ∃ h : House, Ph n ("_law_house" : Str) [.list (natsD ns), .int (a : Int), .int (m : Int), .int (jobs : Int), .int (most : Int), .bool false] = some (encH h) ∧ HouseOk h m jobs most := by
  rw [run_eq (d := d_law_house) (by kernel_rfl) (by omega) _ rfl]
  have eb : fmM (turnE (Ph (n - 1)) [8] (.nm 8) false .non (.tup (.cons (.ix (.lst (.cons (.str "xa") (.cons (.str "xb") (.cons (.str "xc") (.cons (.str "xd") (.cons (.str "xe") .nil)))))) (.var 8)) (.cons (.bin .sub (.bin .mod (.call .frz "_law_cell" (.cons (.var 0) (.cons (.bin .add (.var 1) (.var 8)) .nil))) (.int 9)) (.int 2)) .nil)))
      [some (.list (natsD ns)), some (.int (a : Int)), some (.int (m : Int)), some (.int (jobs : Int)), some (.int (most : Int)), some (.bool false), none, none, none, none, none, none]) ((List.range m).map fun (k : Nat) => PyData.int (k : Int)) = some ((List.range m).map fun i => .tuple [.str (nm i), .int (drawF ns a i)]) := by
    refine fmM_all _ fun i hi => ?_
    have hi : i < m := by simpa using hi
    have c := c_law_cell (n := n - 1) (by omega) d (a + i)
    rw [Int.natCast_add] at c
    have m9 : binD .mod (.int (cellN ns (a + i) : Nat)) (.int 9) = some (.int ((cellN ns (a + i) % 9 : Nat) : Int)) := mod_nat _ 9 (by omega)
    have nb := nm_at i (by omega)
    unfold drawF
    generalize cellN ns (a + i) % 9 = z at *
    generalize cellN ns (a + i) = z2 at *
    simp -implicitDefEqProofs [turnE, c, m9, nb]
  simp -implicitDefEqProofs [d_law_house, rng_nat m (by omega), rng_nat jobs (by omega), eb, Option.bind_assoc]
  refine goF_map (Z := fun (o : Option D) => ∃ h, o = some (encH h) ∧ HouseOk h m jobs most) (as := List.range jobs) (e := fun (k : Nat) => PyData.int (k : Int))
    (fun rest ρ => ∃ (l : List (Str × Str × List St)) (t1 t2 t3 t4 : Option D), ρ = [some (.list (natsD ns)), some (.int (a : Int)), some (.int (m : Int)), some (.int (jobs : Int)), some (.int (most : Int)), some (.bool false), some (.tuple ((List.range m).map fun i => PyData.tuple [.str (nm i), .int (drawF ns a i)])), some (.list (l.map encJ)), t1, t2, t3, t4] ∧ l.length + rest.length = jobs ∧ (∀ k ∈ rest, k < jobs) ∧ ∀ x ∈ l, x.2.2.length ≤ most ∧ ∀ s ∈ x.2.2, okS m s)
    ⟨[], none, none, none, none, rfl, by simp, by simp, by simp⟩ (fun ρ ⟨l, t1, t2, t3, t4, e, h1, h2, h3⟩ => ?_) fun k rest ρ ⟨l, t1, t2, t3, t4, e, h1, h2, h3⟩ => ?_
  · subst e
    refine ⟨⟨m, drawF ns a, l⟩, ?_, rfl, by simpa using h1, h3⟩
    simp -implicitDefEqProofs [encH, booksD, jobsD]
    intro _ _; rfl
  · subst e
    have hk : k < jobs := h2 k (by simp)
    simp only [List.length_cons] at h1
    have c := c_law_cell (n := n - 1) (by omega) d (a + 5 + k)
    rw [Int.natCast_add, Int.natCast_add] at c
    have c : Ph (n - 1) (Str.ofString "_law_cell") [.list (natsD ns), .int ((a : Int) + 5 + (k : Int))] = some (.int (cellN ns (a + 5 + k) : Nat)) := c
    have d5 : binD .fdiv (.int (cellN ns (a + 5 + k) : Nat)) (.int 5) = some (.int ((cellN ns (a + 5 + k) / 5 : Nat) : Int)) := div_nat _ 5 (by omega) (by omega)
    have mm : binD .mod (.int ((cellN ns (a + 5 + k) / 5 : Nat) : Int)) (.int ((most : Int) + 1)) = some (.int ((cellN ns (a + 5 + k) / 5 % (most + 1) : Nat) : Int)) := mod_nat _ (most + 1) (by omega)
    have hmany : cellN ns (a + 5 + k) / 5 % (most + 1) < most + 1 := Nat.mod_lt _ (by omega)
    generalize cellN ns (a + 5 + k) / 5 % (most + 1) = many at *
    generalize cellN ns (a + 5 + k) / 5 = z1 at *
    generalize cellN ns (a + 5 + k) = z2 at *
    have m17 : binD .mul (.int 17) (.int (k : Int)) = some (.int ((17 * k : Nat) : Int)) := mul_nat 17 k (by omega)
    obtain ⟨r, er⟩ := c_law_rule (n := n - 1) (by omega) d (a + 40 + k)
    rw [Int.natCast_add, Int.natCast_add] at er
    have er : Ph (n - 1) (Str.ofString "_law_rule") [.list (natsD ns), .int ((a : Int) + 40 + (k : Int))] = some (.str r) := er
    obtain ⟨ss, s1, s2, s3⟩ := fmM_ex (σ := St) (enc := encS) (P := okS m) (as := List.range many) (e := fun (i : Nat) => PyData.int (i : Int)) (f := turnE (Ph (n - 1)) [11] (.nm 11) false .non (.call .frz "_law_statement" (.cons (.var 0) (.cons (.bin .add (.bin .add (.bin .add (.var 1) (.int 10)) (.bin .mul (.int 17) (.var 8))) (.bin .mul (.int 3) (.var 11))) (.cons (.var 2) (.cons (.var 5) .nil)))))
      [some (.list (natsD ns)), some (.int (a : Int)), some (.int (m : Int)), some (.int (jobs : Int)), some (.int (most : Int)), some (.bool false), some (.tuple ((List.range m).map fun i => PyData.tuple [.str (nm i), .int (drawF ns a i)])), some (.list (l.map encJ)), some (.int (k : Int)), some (.int (many : Int)), t3, t4]) fun i hi => by
        have hi : i < many := by simpa using hi
        obtain ⟨s, e, ok⟩ := c_law_statement (n := n - 1) (by omega) d (a + 10 + 17 * k + 3 * i) m hm hm5
        rw [Int.natCast_add, Int.natCast_add, Int.natCast_add] at e
        have e : Ph (n - 1) (Str.ofString "_law_statement") [.list (natsD ns), .int ((a : Int) + 10 + ((17 * k : Nat) : Int) + ((3 * i : Nat) : Int)), .int (m : Int), .bool false] = some (encS s) := e
        have m3 : binD .mul (.int 3) (.int (i : Int)) = some (.int ((3 * i : Nat) : Int)) := mul_nat 3 i (by omega)
        refine ⟨s, ok, ?_⟩
        generalize 17 * k = q17 at *
        generalize 3 * i = q3 at *
        simp -implicitDefEqProofs [turnE, m17, m3, e]
    have jn := jnm_at k (by omega)
    have hl : l.length < 16777216 := by omega
    simp -implicitDefEqProofs [c, d5, mm, rng_nat many (by omega), s3, er, jn, hl]
    refine ⟨l ++ [(jnm k, r, ss)], ?_, ?_, ?_, ?_⟩
    · simp [encJ, bodyD]
    · simp; omega
    · intro k hk; exact h2 k (by simp [hk])
    · intro x1 x2 x3 hx
      have hx : (x1, x2, x3) ∈ l ++ [(jnm k, r, ss)] := hx
      rcases List.mem_append.mp hx with h | h
      · exact h3 _ h
      · obtain ⟨_, _, rfl⟩ : x1 = jnm k ∧ x2 = r ∧ x3 = ss := by simpa using h
        exact ⟨by rw [s1]; simp; omega, s2⟩
end Q
set_option autoImplicit false
set_option linter.all false
set_option maxRecDepth 100000
set_option maxHeartbeats 4000000
namespace Q
open PySem
theorem scr_cut (ns : List Int) (hl : ns.length ≤ 63) : slD none (some 63) (scrD ns) = some (.list (ns.map .int)) := by
  have : slD none (some 63) (scrD ns) = some (.list (cutD (ns.map .int) none (some 63))) := rfl
  rw [this]
  unfold cutD
  have e : sIx (ns.map PyData.int).length (ns.map PyData.int).length (some 63) = ns.length := by
    unfold sIx
    simp
    omega
  rw [e]
  simp [sIx]
  rw [List.take_of_length_le (by simp)]
theorem pow18 : binD .pow (.int 10) (.int 18) = some (.int ((10 ^ 18 : Nat) : Int)) := by kernel_rfl
theorem abs_i (i : Int) : (biD .int (.int i)).bind (biD .abs) = some (.int (i.natAbs : Nat)) := rfl
theorem cut_n (fs : List Nat) (m : Nat) : slD none (some (m : Int)) (.list (natsD fs)) = some (.list (natsD (fs.take m))) := by
  show some (PyData.list (cutD (natsD fs) none (some (m : Int)))) = _
  unfold cutD
  rw [sIx_nat]
  have e0 : sIx (natsD fs).length 0 none = 0 := rfl
  rw [e0, Nat.sub_zero, List.drop_zero]
  show some (PyData.list ((fs.map _).take _)) = some (PyData.list ((fs.take m).map _))
  rw [← List.map_take]
  rw [nats_len]
  by_cases h : m ≤ fs.length
  · rw [Nat.min_eq_left h]
  · rw [Nat.min_eq_right (by omega), List.take_of_length_le (by omega), List.take_of_length_le (by omega)]
def modN (i : Int) (m : Nat) : Nat := (i % (m : Int)).toNat
theorem modN_lt (i : Int) {m : Nat} (h : 0 < m) : modN i m < m := by
  unfold modN
  have := Int.emod_lt_of_pos i (show (0 : Int) < m by omega)
  have := Int.emod_nonneg i (show (m : Int) ≠ 0 by omega)
  omega
theorem mod_N (i : Int) (m : Nat) (h : 0 < m) : binD .mod (.int i) (.int (m : Int)) = some (.int (modN i m : Nat)) := by
  rw [mod_int i m (by omega)]
  have := Int.emod_nonneg i (show (m : Int) ≠ 0 by omega)
  unfold modN
  congr 2
  omega
theorem mod_M (i : Int) : binD .mod (.int i) (.int 1000003) = some (.int (modN i 1000003 : Nat)) := mod_N i 1000003 (by omega)
theorem mod_M1 (i : Int) : binD .mod (.int i) (.int 2147483647) = some (.int (i % 2147483647)) := mod_int i _ (by omega)
theorem mod_M2 (i : Int) : binD .mod (.int i) (.int 2147483629) = some (.int (i % 2147483629)) := mod_int i _ (by omega)
theorem fd_M (i : Int) : binD .fdiv (.int i) (.int 1000003) = some (.int (i / 1000003)) := fdiv_int i _ (by omega) (by omega)
theorem fd_65 (i : Int) : binD .fdiv (.int i) (.int 65536) = some (.int (i / 65536)) := fdiv_int i _ (by omega) (by omega)
theorem fd_8 (i : Int) : binD .fdiv (.int i) (.int 8) = some (.int (i / 8)) := fdiv_int i _ (by omega) (by omega)
theorem ml_1 (i : Int) : binD .mul (.int i) (.int 16807) = some (.int (i * 16807)) := mul_int i _ (.inr ⟨by omega, by omega⟩)
theorem ml_2 (i : Int) : binD .mul (.int i) (.int 48271) = some (.int (i * 48271)) := mul_int i _ (.inr ⟨by omega, by omega⟩)
theorem ml_3 (i : Int) : binD .mul (.int i) (.int 69621) = some (.int (i * 69621)) := mul_int i _ (.inr ⟨by omega, by omega⟩)
theorem ml_4 (i : Int) : binD .mul (.int 31) (.int i) = some (.int (31 * i)) := mul_int _ i (.inl ⟨by omega, by omega⟩)
theorem ml_5 (i : Int) : binD .mul (.int 7) (.int i) = some (.int (7 * i)) := mul_int _ i (.inl ⟨by omega, by omega⟩)
theorem ml_6 (i : Int) : binD .mul (.int 13) (.int i) = some (.int (13 * i)) := mul_int _ i (.inl ⟨by omega, by omega⟩)
theorem nats_add (fs : List Nat) (r : Nat) : natsD fs ++ [PyData.int (r : Int)] = natsD (fs ++ [r]) := by rw [nats_app]; rfl
theorem add_lt {fs : List Nat} (h : ∀ x ∈ fs, x < 1000003) (i : Int) : ∀ x ∈ fs ++ [modN i 1000003], x < 1000003 := by
  intro x hx
  rcases List.mem_append.mp hx with q | q
  · exact h x q
  · rw [List.mem_singleton.mp q]; exact modN_lt _ (by omega)
def drawEnv (ns : List Int) (fs : List Nat) (a b c d e : Option D) : Env := [some (scrD ns), some (.int 120), some (.list (natsD fs)), a, b, c, d, e]
theorem c_law_draws {n : Nat} (hn : 1 ≤ n) (ns : List Int) (hl : ns.length ≤ 63) : ∃ ds, Ph n ("_law_draws" : Str) [scrD ns, .int 120] = some (.list (natsD ds)) ∧ Draws ds := by
  rw [run_eq (d := d_law_draws) (by kernel_rfl) (by omega) _ rfl]
  simp -implicitDefEqProofs [d_law_draws, scr_cut ns hl, Option.bind_assoc]
  refine goF_map (Z := fun (o : Option D) => ∃ ds, o = some (.list (natsD ds)) ∧ Draws ds) (as := ns) (e := PyData.int)
    (fun rest ρ => ∃ (fs : List Nat) (a b c d e : Option D), ρ = drawEnv ns fs a b c d e ∧ (∀ x ∈ fs, x < 1000003) ∧ fs.length + 60 * rest.length ≤ 3780)
    ⟨[], none, none, none, none, none, rfl, by simp, by simp; omega⟩ (fun ρ ⟨fs, a, b, c, d, e, h1, h2, h3⟩ => ?_) fun i rest ρ ⟨fs, a, b, c, d, e, h1, h2, h3⟩ => ?_
  · subst h1
    simp -implicitDefEqProofs [drawEnv, rng_nat 120 (by omega), Option.bind_assoc, show rngD 0 120 = _ from rng_nat 120 (by omega)]
    refine goF_map (Z := fun (o : Option D) => ∃ ds, o = some (.list (natsD ds)) ∧ Draws ds) (as := List.range 120) (e := fun (k : Nat) => PyData.int (k : Int))
      (fun rest ρ => ∃ (fs : List Nat) (a b c d e : Option D), ρ = drawEnv ns fs a b c d e ∧ (∀ x ∈ fs, x < 1000003) ∧ fs.length ≤ 3780 ∧ 120 ≤ fs.length + rest.length)
      ⟨fs, a, b, c, d, e, rfl, h2, by simpa using h3, by rw [List.length_range]; omega⟩ (fun ρ ⟨fs, a, b, c, d, e, h1, h2, h3, h4⟩ => ?_) fun k rest ρ ⟨fs, a, b, c, d, e, h1, h2, h3, h4⟩ => ?_
    · subst h1
      have hc : slD none (some 120) (.list (natsD fs)) = some (.list (natsD (fs.take 120))) := cut_n fs 120
      simp -implicitDefEqProofs [drawEnv, hc]
      refine ⟨_, rfl, ?_, ?_⟩
      · simp at h4; simp; omega
      · intro x hx; exact h2 x (List.mem_of_mem_take hx)
    · subst h1
      simp only [List.length_cons] at h4
      by_cases q : fs.length < 120
      · have hq : (fs.length : Int) < 120 := by omega
        have hS : fs.length < 16777216 := by omega
        by_cases q0 : fs.length = 0
        · have : fs = [] := by simpa using q0
          subst this
          simp -implicitDefEqProofs [drawEnv, ml_1, ml_4, mod_M]
          exact ⟨[modN 17 1000003], rfl, add_lt (fs := []) (by simp) 17, by simp, by simp at h4 ⊢; omega⟩
        · have hq0 : (0 : Int) < (fs.length : Int) := by omega
          have hq1 : 0 < fs.length := by omega
          have m1 : binD .mod (.int (k : Int)) (.int (fs.length : Int)) = some (.int ((k : Int) % (fs.length : Int))) := mod_int _ _ hq0
          have a1 := at_nats fs (k % fs.length) (Nat.mod_lt _ (by omega))
          rw [Int.natCast_emod] at a1
          simp -implicitDefEqProofs [drawEnv, hq, hq1, m1, a1, ml_1, ml_4, mod_M, hS, nats_add, -nats_app]
          exact ⟨_, rfl, add_lt h2 _, by simp; omega, by simp; omega⟩
      · have hq : ¬ (fs.length : Int) < 120 := by omega
        simp -implicitDefEqProofs [drawEnv, hq]
        exact ⟨fs, rfl, h2, h3, by omega⟩
  · subst h1
    have e1 := abs_i i
    simp only [List.length_cons] at h3
    have r60 : rngD 0 60 = some ((List.range 60).map fun k => .int (k : Nat)) := rng_nat 60 (by omega)
    have r4 : rngD 0 4 = some ((List.range 4).map fun k => .int (k : Nat)) := rng_nat 4 (by omega)
    by_cases q : (1000000000000000000 : Int) ≤ (i.natAbs : Int)
    · simp -implicitDefEqProofs [drawEnv, pow18, e1, q, r60, Option.bind_assoc]
      refine goF_map (Z := okF _ _ _) (as := List.range 60) (e := fun (k : Nat) => PyData.int (k : Int))
        (fun r2 ρ => ∃ (fs : List Nat) (N : Int) (c d e : Option D), ρ = drawEnv ns fs (some (.int i)) (some (.int N)) c d e ∧ (∀ x ∈ fs, x < 1000003) ∧ fs.length + r2.length + 60 * rest.length ≤ 3780)
        ⟨fs, _, c, d, e, rfl, h2, by rw [List.length_range]; omega⟩ (fun ρ ⟨fs, N, c, d, e, h1, h2, h3⟩ => ?_) fun k r2 ρ ⟨fs, N, c, d, e, h1, h2, h3⟩ => ?_
      · subst h1
        simp -implicitDefEqProofs [drawEnv]
        exact ⟨fs, rfl, h2, by simpa using h3⟩
      · subst h1
        simp only [List.length_cons] at h3
        have hS : fs.length < 16777216 := by omega
        by_cases q1 : 0 < N
        · simp -implicitDefEqProofs [drawEnv, q1, mod_M, fd_M, hS, nats_add, -nats_app]
          exact ⟨_, rfl, add_lt h2 _, by simp; omega⟩
        · simp -implicitDefEqProofs [drawEnv, q1]
          exact ⟨fs, rfl, h2, by omega⟩
    · simp -implicitDefEqProofs [drawEnv, pow18, e1, q, ml_2, ml_5, mod_M1, r4, Option.bind_assoc]
      generalize ((i.natAbs : Int) * 48271 + 7 * (fs.length : Int) + 11) % 2147483647 = N0
      refine goF_map (Z := okF _ _ _) (as := List.range 4) (e := fun (k : Nat) => PyData.int (k : Int))
        (fun r2 ρ => ∃ (fs : List Nat) (N : Int) (b c e : Option D), ρ = drawEnv ns fs (some (.int i)) b c (some (.int N)) e ∧ (∀ x ∈ fs, x < 1000003) ∧ fs.length + r2.length + 60 * rest.length ≤ 3780)
        ⟨fs, N0, _, c, e, rfl, h2, by rw [List.length_range]; omega⟩ (fun ρ ⟨fs, N, b, c, e, h1, h2, h3⟩ => ?_) fun k r2 ρ ⟨fs, N, b, c, e, h1, h2, h3⟩ => ?_
      · subst h1
        simp -implicitDefEqProofs [drawEnv]
        exact ⟨fs, rfl, h2, by simpa using h3⟩
      · subst h1
        simp only [List.length_cons] at h3
        have hS : fs.length < 16777216 := by omega
        simp -implicitDefEqProofs [drawEnv, ml_3, ml_6, fd_65, fd_8, mod_M2, mod_M, hS, nats_add, -nats_app]
        exact ⟨_, rfl, add_lt h2 _, by simp; omega⟩
end Q
set_option autoImplicit false
set_option linter.all false
set_option maxRecDepth 100000
set_option maxHeartbeats 4000000
namespace Q
open PySem
theorem fd_ex (c w : Nat) (hw : 0 < w) (hw2 : w < 1000) : ∃ q : Nat, binD .fdiv (.int (c : Int)) (.int (w : Int)) = some (.int (q : Int)) := ⟨_, div_nat c w hw (by omega)⟩
theorem md_ex (c w : Nat) (hw : 0 < w) : ∃ q : Nat, q < w ∧ binD .mod (.int (c : Int)) (.int (w : Int)) = some (.int (q : Int)) := ⟨_, Nat.mod_lt _ hw, mod_nat c w hw⟩
theorem v3_at (q : Nat) (hq : q < 3) : ∃ v : Str, atD [.str (Str.ofString "va"), .str (Str.ofString "vb"), .str (Str.ofString "vc")] (q : Int) = some (.str v) := by
  obtain ⟨x, e, h⟩ := at_three (.str (Str.ofString "va")) (.str (Str.ofString "vb")) (.str (Str.ofString "vc")) q hq
  rw [e]
  rcases h with h | h | h <;> exact ⟨_, congrArg some h⟩
theorem cut_one (x : D) (q : Nat) (hq : q < 2) : slD none (some (q : Int)) (.list [x]) = some (.list (if q = 0 then [] else [x])) := by
  match q, hq with
  | 0, _ => rfl
  | 1, _ => rfl
theorem okS_ot (m : Nat) (w : Str) (r : List D) (h : (w != ("read" : Str) && w != ("write" : Str) && w != ("if" : Str)) = true) : okS m (.ot w r) := by
  simp at h
  exact ⟨h.1.1, h.1.2, h.2⟩
theorem ok_add {m : Nat} {ss : List St} (h : ∀ s ∈ ss, okS m s) {s : St} (hs : okS m s) : ∀ t ∈ ss ++ [s], okS m t := by
  intro t ht
  rcases List.mem_append.mp ht with q | q
  · exact h t q
  · rw [List.mem_singleton.mp q]; exact hs
theorem enc_add (ss : List St) (s : St) : ss.map encS ++ [encS s] = (ss ++ [s]).map encS := by simp
theorem ints_add (ss : List Int) (s : Int) : ss.map PyData.int ++ [PyData.int s] = (ss ++ [s]).map PyData.int := by simp
def sbEnv (ns : List Nat) (a m most : Nat) (ss : List St) (rd wt : List Int) (t1 t2 t3 t4 : Option D) : Env := [some (.list (natsD ns)), some (.int (a : Int)), some (.int (m : Int)), some (.int (most : Int)), some (.list (ss.map encS)), some (.list (rd.map .int)), some (.list (wt.map .int)), t1, t2, t3, t4]
def sbI (ns : List Nat) (a m most : Nat) (rest : List Nat) (ρ : Env) : Prop := ∃ (ss : List St) (rd wt : List Int) (t1 t2 t3 t4 : Option D), ρ = sbEnv ns a m most ss rd wt t1 t2 t3 t4 ∧ (∀ s ∈ ss, okS m s) ∧ ss.length + 2 * rest.length ≤ 1 + 2 * most ∧ rd.length + rest.length ≤ most ∧ wt.length + rest.length ≤ most
theorem c_law_straight_body {n : Nat} (hn : 2 ≤ n) {ns : List Nat} (d : Draws ns) (a m most : Nat) (hm : 1 ≤ m) (hm5 : m ≤ 5) (hmost : most ≤ 20) : ∃ ss : List St, Ph n ("_law_straight_body" : Str) [.list (natsD ns), .int (a : Int), .int (m : Int), .int (most : Int)] = some (bodyD ss) ∧ ss.length ≤ 2 + 2 * most ∧ ∀ s ∈ ss, okS m s := by
  rw [run_eq (d := d_law_straight_body) (by kernel_rfl) (by omega) _ rfl]
  have c := c_law_cell (n := n - 1) (by omega) d a
  generalize cellN ns a = z at c
  obtain ⟨z5, _, m5⟩ := md_ex z 5 (by omega)
  obtain ⟨y5, d5⟩ := fd_ex z 5 (by omega) (by omega)
  obtain ⟨y52, hy, m2⟩ := md_ex y5 2 (by omega)
  obtain ⟨y10, d10⟩ := fd_ex z 10 (by omega) (by omega)
  obtain ⟨y104, _, m4⟩ := md_ex y10 4 (by omega)
  have c1 := fun x => cut_one x y52 hy
  simp -implicitDefEqProofs at m5 d5 m2 d10 m4
  simp -implicitDefEqProofs [d_law_straight_body, c, m5, d5, m2, c1, rng_nat most (by omega), Option.bind_assoc]
  refine goF_map (Z := fun (o : Option D) => ∃ ss : List St, o = some (bodyD ss) ∧ ss.length ≤ 2 + 2 * most ∧ ∀ s ∈ ss, okS m s) (as := List.range most) (e := fun (k : Nat) => PyData.int (k : Int))
    (sbI ns a m most)
    ⟨if y52 = 0 then [] else [.ot (Str.ofString "num") [.str (Str.ofString "vb"), .int (z5 : Int)]], [], [], none, none, none, none, ?_, ?_, ?_, by simp, by simp⟩ (fun ρ ⟨ss, rd, wt, t1, t2, t3, t4, e, h1, h2, h3, h4⟩ => ?_) fun k rest ρ ⟨ss, rd, wt, t1, t2, t3, t4, e, h1, h2, h3, h4⟩ => ?_
  · unfold sbEnv
    split <;> rfl
  · split
    · simp
    · intro s hs
      rw [List.mem_singleton.mp hs]
      exact okS_ot _ _ _ (by decide +kernel)
  · rw [List.length_range]
    split <;> simp <;> omega
  · subst e
    simp only [List.length_nil] at h2
    have hS : ss.length < 16777216 := by omega
    by_cases q : y104 = 0
    · subst q
      simp -implicitDefEqProofs [sbEnv, c, d10, m4, hS]
      refine ⟨ss ++ [.ot (Str.ofString "say") [.str (Str.ofString "va")]], ?_, by simp; omega, ?_⟩
      · unfold bodyD; simp [encS]
      · exact ok_add h1 (okS_ot _ _ _ (by decide +kernel))
    · simp -implicitDefEqProofs [sbEnv, c, d10, m4, q]
      exact ⟨ss, rfl, by omega, h1⟩
  · subst e
    simp only [List.length_cons] at h2 h3 h4
    have hS : ss.length < 16777216 := by omega
    have hS1 : ss.length + 1 < 16777216 := by omega
    have hR : rd.length < 16777216 := by omega
    have hW : wt.length < 16777216 := by omega
    have c := c_law_cell (n := n - 1) (by omega) d (a + 1 + k)
    rw [Int.natCast_add, Int.natCast_add] at c
    have c : Ph (n - 1) (Str.ofString "_law_cell") [.list (natsD ns), .int ((a : Int) + 1 + (k : Int))] = some (.int (cellN ns (a + 1 + k) : Nat)) := c
    generalize cellN ns (a + 1 + k) = z at c
    obtain ⟨y3, d3⟩ := fd_ex z 3 (by omega) (by omega)
    obtain ⟨b, hb, mb⟩ := md_ex y3 m (by omega)
    obtain ⟨p, hp, mp⟩ := md_ex z 2 (by omega)
    obtain ⟨y30, d30⟩ := fd_ex z 30 (by omega) (by omega)
    obtain ⟨r, hr, mr⟩ := md_ex y30 3 (by omega)
    obtain ⟨y90, d90⟩ := fd_ex z 90 (by omega) (by omega)
    obtain ⟨y7, _, m7⟩ := md_ex y90 7 (by omega)
    obtain ⟨t, ht, mt⟩ := md_ex y90 3 (by omega)
    obtain ⟨y15, d15⟩ := fd_ex z 15 (by omega) (by omega)
    obtain ⟨u1, hu1, m15⟩ := md_ex y15 3 (by omega)
    obtain ⟨v1, w1⟩ := v3_at u1 hu1
    obtain ⟨y45, d45⟩ := fd_ex z 45 (by omega) (by omega)
    obtain ⟨u2, hu2, m45⟩ := md_ex y45 3 (by omega)
    obtain ⟨v2, w2⟩ := v3_at u2 hu2
    have nb := nm_at b (by omega)
    simp -implicitDefEqProofs at d3 mp d30 mr d90 m7 mt d15 m15 d45 m45
    have hpp : p = 0 ∨ p = 1 := by omega
    rcases hpp with rfl | rfl
    · by_cases q1 : (b : Int) ∈ rd
      · simp -implicitDefEqProofs [sbEnv, c, d3, mb, nb, mp, in_ints, q1]
        exact ⟨ss, rd, wt, _, _, _, _, rfl, h1, by omega, by omega, by omega⟩
      · by_cases q2 : (b : Int) ∈ wt
        · simp -implicitDefEqProofs [sbEnv, c, d3, mb, nb, mp, in_ints, q1, q2]
          exact ⟨ss, rd, wt, _, _, _, _, rfl, h1, by omega, by omega, by omega⟩
        · simp -implicitDefEqProofs [sbEnv, c, d3, mb, nb, mp, in_ints, q1, q2, hR, hS, d15, m15, w1]
          exact ⟨ss ++ [.rd v1 b], rd ++ [(b : Int)], wt, _, _, _, _, by unfold sbEnv; simp [encS]; exact ⟨rfl, rfl, rfl, rfl⟩, ok_add h1 (by exact hb), by simp; omega, by simp; omega, by omega⟩
    · by_cases q2 : (b : Int) ∈ wt
      · simp -implicitDefEqProofs [sbEnv, c, d3, mb, nb, mp, in_ints, q2]
        exact ⟨ss, rd, wt, _, _, _, _, rfl, h1, by omega, by omega, by omega⟩
      · simp -implicitDefEqProofs [sbEnv, c, d3, mb, nb, mp, in_ints, q2, hW, d30, mr, d90, m7, mt]
        by_cases q3 : r = 0
        · subst q3
          simp -implicitDefEqProofs [d45, m45, w2, hS]
          exact ⟨ss ++ [.wr b v2], rd, wt ++ [(b : Int)], _, _, _, _, by unfold sbEnv; simp [encS]; exact ⟨rfl, rfl, rfl, rfl⟩, ok_add h1 (by exact hb), by simp; omega, by omega, by simp; omega⟩
        · have q4 : 0 < r := by omega
          obtain ⟨s, es, hs⟩ : ∃ s : St, atD [.tuple [.str (Str.ofString "add"), .str (Str.ofString "va"), .str (Str.ofString "va"), .str (Str.ofString "vb")], .tuple [.str (Str.ofString "num"), .str (Str.ofString "va"), .int (y7 : Int)], .tuple [.str (Str.ofString "sub"), .str (Str.ofString "vc"), .str (Str.ofString "va"), .str (Str.ofString "vb")]] (t : Int) = some (encS s) ∧ okS m s := by
            have : t = 0 ∨ t = 1 ∨ t = 2 := by omega
            rcases this with rfl | rfl | rfl
            · exact ⟨.ot (Str.ofString "add") [.str (Str.ofString "va"), .str (Str.ofString "va"), .str (Str.ofString "vb")], by simp [encS], okS_ot _ _ _ (by decide +kernel)⟩
            · exact ⟨.ot (Str.ofString "num") [.str (Str.ofString "va"), .int (y7 : Int)], by simp [encS], okS_ot _ _ _ (by decide +kernel)⟩
            · exact ⟨.ot (Str.ofString "sub") [.str (Str.ofString "vc"), .str (Str.ofString "va"), .str (Str.ofString "vb")], by simp [encS], okS_ot _ _ _ (by decide +kernel)⟩
          simp -implicitDefEqProofs [q4, es, d45, m45, w2, hS, hS1]
          exact ⟨ss ++ [s] ++ [.wr b v2], rd, wt ++ [(b : Int)], _, _, _, _, by unfold sbEnv; simp [encS]; exact ⟨rfl, rfl, rfl, rfl⟩, ok_add (ok_add h1 hs) (by exact hb), by simp; omega, by omega, by simp; omega⟩
end Q
set_option autoImplicit false
set_option linter.all false
set_option maxRecDepth 100000
set_option maxHeartbeats 4000000
namespace Q
open PySem
def shI (ns : List Nat) (a m jobs most : Nat) (rest : List Nat) (ρ : Env) : Prop := ∃ (l : List (Str × Str × List St)) (t1 t2 : Option D), ρ = [some (.list (natsD ns)), some (.int (a : Int)), some (.int (m : Int)), some (.int (jobs : Int)), some (.int (most : Int)), some (.tuple ((List.range m).map fun i => PyData.tuple [.str (nm i), .int (drawF ns a i)])), some (.list (l.map encJ)), t1, t2] ∧ l.length + rest.length = jobs ∧ (∀ k ∈ rest, k < jobs) ∧ ∀ x ∈ l, x.2.2.length ≤ 2 + 2 * most ∧ ∀ s ∈ x.2.2, okS m s
theorem c_law_straight_house {n : Nat} (hn : 4 ≤ n) {ns : List Nat} (d : Draws ns) (a m jobs most : Nat) (hm : 1 ≤ m) (hm5 : m ≤ 5) (hj : jobs ≤ 5) (hmost : most ≤ 20) : ∃ h : House, Ph n ("_law_straight_house" : Str) [.list (natsD ns), .int (a : Int), .int (m : Int), .int (jobs : Int), .int (most : Int)] = some (encH h) ∧ HouseOk h m jobs (2 + 2 * most) := by
  rw [run_eq (d := d_law_straight_house) (by kernel_rfl) (by omega) _ rfl]
  have eb : fmM (turnE (Ph (n - 1)) [7] (.nm 7) false .non (.tup (.cons (.ix (.lst (.cons (.str "xa") (.cons (.str "xb") (.cons (.str "xc") (.cons (.str "xd") (.cons (.str "xe") .nil)))))) (.var 7)) (.cons (.bin .sub (.bin .mod (.call .frz "_law_cell" (.cons (.var 0) (.cons (.bin .add (.var 1) (.var 7)) .nil))) (.int 9)) (.int 2)) .nil)))
      [some (.list (natsD ns)), some (.int (a : Int)), some (.int (m : Int)), some (.int (jobs : Int)), some (.int (most : Int)), none, none, none, none]) ((List.range m).map fun (k : Nat) => PyData.int (k : Int)) = some ((List.range m).map fun i => .tuple [.str (nm i), .int (drawF ns a i)]) := by
    refine fmM_all _ fun i hi => ?_
    have hi : i < m := by simpa using hi
    have c := c_law_cell (n := n - 1) (by omega) d (a + i)
    rw [Int.natCast_add] at c
    have m9 : binD .mod (.int (cellN ns (a + i) : Nat)) (.int 9) = some (.int ((cellN ns (a + i) % 9 : Nat) : Int)) := mod_nat _ 9 (by omega)
    have nb := nm_at i (by omega)
    unfold drawF
    generalize cellN ns (a + i) % 9 = z at *
    generalize cellN ns (a + i) = z2 at *
    simp -implicitDefEqProofs [turnE, c, m9, nb]
  simp -implicitDefEqProofs [d_law_straight_house, rng_nat m (by omega), rng_nat jobs (by omega), eb, Option.bind_assoc]
  refine goF_map (Z := fun (o : Option D) => ∃ h, o = some (encH h) ∧ HouseOk h m jobs (2 + 2 * most)) (as := List.range jobs) (e := fun (k : Nat) => PyData.int (k : Int))
    (shI ns a m jobs most) ⟨[], none, none, rfl, by simp, by simp, by simp⟩ (fun ρ ⟨l, t1, t2, e, h1, h2, h3⟩ => ?_) fun k rest ρ ⟨l, t1, t2, e, h1, h2, h3⟩ => ?_
  · subst e
    refine ⟨⟨m, drawF ns a, l⟩, ?_, rfl, by simpa using h1, h3⟩
    simp -implicitDefEqProofs [encH, booksD, jobsD]
    intro _ _; rfl
  · subst e
    have hk : k < jobs := h2 k (by simp)
    simp only [List.length_cons] at h1
    have m11 : binD .mul (.int 11) (.int (k : Int)) = some (.int ((11 * k : Nat) : Int)) := mul_nat 11 k (by omega)
    obtain ⟨r, er⟩ := c_law_rule (n := n - 1) (by omega) d (a + 40 + k)
    rw [Int.natCast_add, Int.natCast_add] at er
    have er : Ph (n - 1) (Str.ofString "_law_rule") [.list (natsD ns), .int ((a : Int) + 40 + (k : Int))] = some (.str r) := er
    obtain ⟨ss, e1, s1, s2⟩ := c_law_straight_body (n := n - 1) (by omega) d (a + 10 + 11 * k) m most hm hm5 hmost
    rw [Int.natCast_add, Int.natCast_add] at e1
    have e1 : Ph (n - 1) (Str.ofString "_law_straight_body") [.list (natsD ns), .int ((a : Int) + 10 + ((11 * k : Nat) : Int)), .int (m : Int), .int (most : Int)] = some (bodyD ss) := e1
    generalize 11 * k = q11 at *
    have jn := jnm_at k (by omega)
    have hl : l.length < 16777216 := by omega
    simp -implicitDefEqProofs [m11, e1, er, jn, hl]
    refine ⟨l ++ [(jnm k, r, ss)], some (.int (k : Int)), some (bodyD ss), ?_, ?_, ?_, ?_⟩
    · simp [encJ, bodyD]
    · simp; omega
    · intro k hk; exact h2 k (by simp [hk])
    · intro x hx
      rcases List.mem_append.mp hx with h | h
      · exact h3 x h
      · rw [List.mem_singleton.mp h]
        exact ⟨s1, s2⟩
end Q
set_option autoImplicit false
set_option linter.all false
set_option maxRecDepth 100000
set_option maxHeartbeats 4000000
namespace Q
open PySem
def fmStep (k : Option (List D)) : Option D → Option (List D)
  | none => k
  | some y => k.map (y :: ·)
@[simp] theorem fmStep_some (k : Option (List D)) (y : D) : fmStep k (some y) = k.map (y :: ·) := rfl
@[simp] theorem fmStep_none (k : Option (List D)) : fmStep k none = k := rfl
theorem fmM_cons (f : D → Option (Option D)) (x : D) (xs : List D) : fmM f (x :: xs) = (f x).bind (fmStep (fmM f xs)) := by
  conv => lhs; unfold fmM
  congr 1
theorem tupD_7 (a b c d e f g : D) : tupD [a, b, c, d, e, f, g] = some (.tuple [a, b, c, d, e, f, g]) := tupD_ok (by simp)
theorem fmM_zero (f : D → Option (Option D)) : fmM f [] = some [] := rfl
theorem r2 : rngD 0 2 = some [.int 0, .int 1] := by kernel_rfl
theorem r3 : rngD 0 3 = some [.int 0, .int 1, .int 2] := by kernel_rfl
theorem r4 : rngD 0 4 = some [.int 0, .int 1, .int 2, .int 3] := by kernel_rfl
theorem mul2 (x : D) : binD .mul (.list [x]) (.int 2) = some (.list [x, x]) := by kernel_rfl
theorem mul3 (x : D) : binD .mul (.list [x]) (.int 3) = some (.list [x, x, x]) := by kernel_rfl
theorem cutT1 (x y z : D) : slD none (some 1) (.tuple [x, y, z]) = some (.tuple [x]) := by kernel_rfl
theorem cutT2 (x y z : D) : slD none (some 2) (.tuple [x, y, z]) = some (.tuple [x, y]) := by kernel_rfl
theorem cutT3 (x y z : D) : slD none (some 3) (.tuple [x, y, z]) = some (.tuple [x, y, z]) := by kernel_rfl
theorem atD_3 (x y z w : D) (xs : List D) : atD (x :: y :: z :: w :: xs) 3 = some w := by
  have := atD_nat (x :: y :: z :: w :: xs) 3
  simpa using this
theorem atD_4 (x y z w v : D) (xs : List D) : atD (x :: y :: z :: w :: v :: xs) 4 = some v := by
  have := atD_nat (x :: y :: z :: w :: v :: xs) 4
  simpa using this
def famFs (f : Int) (i : Nat) : Int := if i = 0 then f else if i = 1 then f + 3 else 4
def sNum (v : String) (i : Int) : St := .ot (Str.ofString "num") [.str (Str.ofString v), .int i]
def sAdd (a b c : String) : St := .ot (Str.ofString "add") [.str (Str.ofString a), .str (Str.ofString b), .str (Str.ofString c)]
def sSub (a b c : String) : St := .ot (Str.ofString "sub") [.str (Str.ofString a), .str (Str.ofString b), .str (Str.ofString c)]
def sSay (v : String) : St := .ot (Str.ofString "say") [.str (Str.ofString v)]
def sRd (v : String) (i : Nat) : St := .rd (Str.ofString v) i
def sWr (i : Nat) (v : String) : St := .wr i (Str.ofString v)
def famCounter (i : Int) : List St := [sRd "va" 0, sNum "vb" i, sAdd "va" "va" "vb", sWr 0 "va"]
def famSkew (k : Nat) : List St := [sRd "va" 0, sRd "vb" 1, sAdd "va" "va" "vb", sWr k "va"]
def famPay (i : Int) : List St := [sRd "va" 0, sNum "vc" i, sSub "va" "va" "vc", sWr 0 "va", sRd "vb" 1, sAdd "vb" "vb" "vc", sWr 1 "vb"]
def famRing (k : Nat) (i : Int) (l : Nat) : List St := [sRd "va" k, sNum "vb" i, sAdd "va" "va" "vb", sWr l "va"]
def famLook : List (List St) := [[sRd "va" 0, sRd "vb" 1, sSay "va", sSay "vb"], [sNum "va" 5, sWr 0 "va"], [sRd "vb" 0, sWr 1 "vb"]]
def famM (p : Nat) : Nat := [1, 2, 2, 3, 2].getD p 0
def famB (p e : Nat) (i1 i2 : Int) : List (List St) := if p = 0 then (if e = 0 then [famCounter i1, famCounter i1] else [famCounter i1, famCounter i1, famCounter i1]) else if p = 1 then [famSkew 0, famSkew 1] else if p = 2 then [famPay i2, famPay i2] else if p = 3 then [famRing 0 2 1, famRing 1 3 2, famRing 2 4 0] else famLook
def famJ (rs : Nat → Str) (bs : List (List St)) : List (Str × Str × List St) := (List.range bs.length).map fun k => (jnm k, rs k, bs.getD k [])
def famH (p e : Nat) (i1 i2 f : Int) (rs : Nat → Str) : House := ⟨famM p, famFs f, famJ rs (famB p e i1 i2)⟩
theorem fam_shape (p e : Nat) (hp : p < 5) (he : e < 2) (i1 i2 : Int) : (famB p e i1 i2).length ≤ 3 ∧ ∀ b ∈ famB p e i1 i2, b.length ≤ 7 ∧ ∀ s ∈ b, okS (famM p) s := by
  have hn : ∀ m v i, okS m (sNum v i) := fun m v i => okS_ot _ _ _ (by decide +kernel)
  have ha : ∀ m a b c, okS m (sAdd a b c) := fun m a b c => okS_ot _ _ _ (by decide +kernel)
  have hs : ∀ m a b c, okS m (sSub a b c) := fun m a b c => okS_ot _ _ _ (by decide +kernel)
  have hy : ∀ m v, okS m (sSay v) := fun m v => okS_ot _ _ _ (by decide +kernel)
  have hr : ∀ m v i, i < m → okS m (sRd v i) := fun m v i h => h
  have hw : ∀ m v i, i < m → okS m (sWr i v) := fun m v i h => h
  have hp5 : p = 0 ∨ p = 1 ∨ p = 2 ∨ p = 3 ∨ p = 4 := by omega
  have he2 : e = 0 ∨ e = 1 := by omega
  rcases hp5 with rfl | rfl | rfl | rfl | rfl
  · rcases he2 with rfl | rfl <;> simp [famB, famCounter, famM, hn, ha, hs, hy, hr, hw]
  · simp [famB, famSkew, famM, hn, ha, hs, hy, hr, hw]
  · simp [famB, famPay, famM, hn, ha, hs, hy, hr, hw]
  · simp [famB, famRing, famM, hn, ha, hs, hy, hr, hw]
  · simp [famB, famLook, famM, hn, ha, hs, hy, hr, hw]
theorem c_law_family {n : Nat} (hn : 3 ≤ n) {ns : List Nat} (d : Draws ns) (a : Nat) : ∃ p e i1 i2 f rs, p < 5 ∧ e < 2 ∧ Ph n ("_law_family" : Str) [.list (natsD ns), .int (a : Int)] = some (encH (famH p e i1 i2 f rs)) := by
  rw [run_eq (d := d_law_family) (by kernel_rfl) (by omega) _ rfl]
  have c := c_law_cell (n := n - 1) (by omega) d a
  have c5 := c_law_cell (n := n - 1) (by omega) d (a + 5)
  rw [Int.natCast_add] at c5
  have c5 : Ph (n - 1) (Str.ofString "_law_cell") [.list (natsD ns), .int ((a : Int) + 5)] = some (.int (cellN ns (a + 5) : Nat)) := c5
  generalize cellN ns a = z at c
  generalize cellN ns (a + 5) = z5 at c5
  have er : ∀ k : Nat, ∃ r : Str, Ph (n - 1) (Str.ofString "_law_rule") [.list (natsD ns), .int ((a : Int) + 1 + (k : Int))] = some (.str r) := fun k => by
    obtain ⟨r, er⟩ := c_law_rule (n := n - 1) (by omega) d (a + 1 + k)
    rw [Int.natCast_add, Int.natCast_add] at er
    exact ⟨r, er⟩
  obtain ⟨r0, e0⟩ := er 0
  obtain ⟨r1, e1⟩ := er 1
  obtain ⟨r2', e2⟩ := er 2
  obtain ⟨r3', e3⟩ := er 3
  obtain ⟨f9, _, m9⟩ := md_ex z5 9 (by omega)
  obtain ⟨y5, d5⟩ := fd_ex z 5 (by omega) (by omega)
  obtain ⟨y53, _, m53⟩ := md_ex y5 3 (by omega)
  obtain ⟨y7, d7⟩ := fd_ex z 7 (by omega) (by omega)
  obtain ⟨y74, _, m74⟩ := md_ex y7 4 (by omega)
  obtain ⟨y15, d15⟩ := fd_ex z 15 (by omega) (by omega)
  obtain ⟨e, he, m15⟩ := md_ex y15 2 (by omega)
  obtain ⟨p, hp, mp⟩ := md_ex z 5 (by omega)
  simp -implicitDefEqProofs at m9 d5 m53 d7 m74 d15 m15 mp e0 e1 e2 e3
  refine ⟨p, e, 1 + y53, 1 + y74, (f9 : Int) - 2, fun k => [r0, r1, r2', r3'].getD k r0, hp, he, ?_⟩
  have hp5 : p = 0 ∨ p = 1 ∨ p = 2 ∨ p = 3 ∨ p = 4 := by omega
  have he2 : e = 0 ∨ e = 1 := by omega
  have l5 := fun a b c d e : D => lstD_5 a b c d e
  rcases hp5 with rfl | rfl | rfl | rfl | rfl <;> rcases he2 with rfl | rfl
  all_goals
    simp -implicitDefEqProofs [d_law_family, c, c5, r4, r3, r2, fmM_cons, fmM_zero, turnE, e0, e1, e2, e3, m9, d5, m53, d7, m74, d15, m15, mp, mul2, mul3, cutT1, cutT2, cutT3, atD_3, atD_4, tupD_7]
    rfl
end Q
set_option autoImplicit false
set_option linter.all false
set_option maxRecDepth 100000
set_option maxHeartbeats 4000000
namespace Q
open PySem
def noNeed : St → St
  | .ot w r => if w = ("need" : Str) then .ot ("skip" : Str) [] else .ot w r
  | s => s
theorem noNeed_ok {m : Nat} {s : St} (h : okS m s) : okS m (noNeed s) := by
  cases s with
  | ot w r =>
    by_cases q : w = ("need" : Str)
    · have : noNeed (.ot w r) = .ot ("skip" : Str) [] := if_pos q
      rw [this]
      exact okS_ot _ _ _ (by decide +kernel)
    · have : noNeed (.ot w r) = .ot w r := if_neg q
      rw [this]
      exact h
  | _ => exact h
theorem need_turn {n : Nat} (s : St) (a b c d e f : Option D) : turnE (Ph n) [5] (.nm 5) false .non (.ix (.lst (.cons (.var 5) (.cons (.tup (.cons (.str "skip") .nil)) .nil))) (.bi .int (.cmp .eq (.ix (.var 5) (.int 0)) (.str "need")))) [a, b, c, d, e, f] (encS s) = some (some (encS (noNeed s))) := by
  have i0 : biD .int (.bool false) = some (.int 0) := rfl
  have i1 : biD .int (.bool true) = some (.int 1) := rfl
  cases s with
  | rd v i =>
    have q : ¬ (Str.ofString "read" = Str.ofString "need") := by decide +kernel
    simp -implicitDefEqProofs [turnE, encS, noNeed, q, i0]
  | wr i v =>
    have q : ¬ (Str.ofString "write" = Str.ofString "need") := by decide +kernel
    simp -implicitDefEqProofs [turnE, encS, noNeed, q, i0]
  | ot w r =>
    by_cases q : w = Str.ofString "need"
    · simp -implicitDefEqProofs [turnE, encS, noNeed, q, i1]
    · simp -implicitDefEqProofs [turnE, encS, noNeed, q, i0]
def noNeedJ (x : Str × Str × List St) : Str × Str × List St := (x.1, x.2.1, x.2.2.map noNeed)
def House.noNeed (h : House) : House := ⟨h.m, h.fs, h.jobs.map noNeedJ⟩
def wnI (h : House) (rest : List (Str × Str × List St)) (ρ : Env) : Prop := ∃ (l : List (Str × Str × List St)) (t1 t2 t3 t4 : Option D), ρ = [some (encH h), some (.list (l.map encJ)), t1, t2, t3, t4] ∧ l ++ rest.map noNeedJ = h.jobs.map noNeedJ
theorem c_law_without_needs {n : Nat} (hn : 1 ≤ n) {h : House} (hj : h.n ≤ 1000) : Ph n ("_law_without_needs" : Str) [encH h] = some (encH h.noNeed) := by
  rw [run_eq (d := d_law_without_needs) (by kernel_rfl) (by omega) _ rfl]
  have it : itemsD (jobsD h.jobs) = some (h.jobs.map encJ) := rfl
  simp -implicitDefEqProofs [d_law_without_needs, it, Option.bind_assoc]
  refine goF_map (Z := fun (o : Option D) => o = some (encH h.noNeed)) (as := h.jobs) (e := encJ) (wnI h) ⟨[], none, none, none, none, rfl, rfl⟩ (fun ρ ⟨l, t1, t2, t3, t4, e, h1⟩ => ?_) fun j rest ρ ⟨l, t1, t2, t3, t4, e, h1⟩ => ?_
  · subst e
    simp at h1
    simp -implicitDefEqProofs [h1]
    simp [encH, House.noNeed, jobsD, booksD]
    intro _ _; rfl
  · subst e
    have hl : l.length < 16777216 := by
      have := congrArg List.length h1
      simp at this
      unfold House.n at hj
      omega
    obtain ⟨a, b, c⟩ := j
    have eb : itemsD (bodyD c) = some (c.map encS) := rfl
    have ef : fmM (turnE (Ph (n - 1)) [5] (.nm 5) false .non (.ix (.lst (.cons (.var 5) (.cons (.tup (.cons (.str "skip") .nil)) .nil))) (.bi .int (.cmp .eq (.ix (.var 5) (.int 0)) (.str "need")))) [some (encH h), some (.list (l.map encJ)), some (.str a), some (.str b), some (bodyD c), t4]) (c.map encS) = some (c.map fun s => encS (noNeed s)) := fmM_all _ fun s _ => need_turn s _ _ _ _ _ _
    simp -implicitDefEqProofs [encJ, ef, eb, hl]
    refine ⟨l ++ [noNeedJ (a, b, c)], some (.str a), some (.str b), some (bodyD c), t4, ?_, ?_⟩
    · simp [encJ, noNeedJ, bodyD]
    · rw [← h1]; simp
theorem noNeed_house {h : House} {m jobs most : Nat} (k : HouseOk h m jobs most) : HouseOk h.noNeed m jobs most := by
  refine ⟨k.em, by simp [House.noNeed, k.n], fun x hx => ?_⟩
  obtain ⟨y, hy, rfl⟩ := List.mem_map.mp hx
  have := k.ok y hy
  refine ⟨by simpa [noNeedJ] using this.1, fun s hs => ?_⟩
  obtain ⟨t, ht, rfl⟩ := List.mem_map.mp hs
  exact noNeed_ok (this.2 t ht)
theorem fam_ok (p e : Nat) (hp : p < 5) (he : e < 2) (i1 i2 f : Int) (rs : Nat → Str) : Good5 (famH p e i1 i2 f rs) := by
  obtain ⟨s1, s2⟩ := fam_shape p e hp he i1 i2
  have k : HouseOk (famH p e i1 i2 f rs) (famM p) (famB p e i1 i2).length 7 := by
    refine ⟨rfl, by simp [famH, famJ], fun x hx => ?_⟩
    obtain ⟨y, hy, rfl⟩ := List.mem_map.mp hx
    have hy : y < (famB p e i1 i2).length := by simpa using hy
    have : (famB p e i1 i2).getD y [] ∈ famB p e i1 i2 := by
      rw [List.getD_eq_getElem?_getD, List.getElem?_eq_getElem hy]; exact List.getElem_mem hy
    exact s2 _ this
  refine k.good ?_ (by omega) (by omega)
  have : ∀ q : Fin 5, famM q.1 ≤ 5 := by decide
  exact this ⟨p, hp⟩
theorem pairs8 (q : Nat) (hq : q < 8) : ∃ j m : Nat, j ≤ 5 ∧ m ≤ 8 ∧ atD [.tuple [.int 2, .int 6], .tuple [.int 3, .int 5], .tuple [.int 4, .int 4], .tuple [.int 5, .int 8], .tuple [.int 1, .int 7], .tuple [.int 3, .int 3], .tuple [.int 2, .int 3], .tuple [.int 0, .int 1]] (q : Int) = some (.tuple [.int (j : Int), .int (m : Int)]) := by
  rw [atD_nat]
  match q, hq with
  | 0, _ => exact ⟨2, 6, by omega, by omega, rfl⟩
  | 1, _ => exact ⟨3, 5, by omega, by omega, rfl⟩
  | 2, _ => exact ⟨4, 4, by omega, by omega, rfl⟩
  | 3, _ => exact ⟨5, 8, by omega, by omega, rfl⟩
  | 4, _ => exact ⟨1, 7, by omega, by omega, rfl⟩
  | 5, _ => exact ⟨3, 3, by omega, by omega, rfl⟩
  | 6, _ => exact ⟨2, 3, by omega, by omega, rfl⟩
  | 7, _ => exact ⟨0, 1, by omega, by omega, rfl⟩
theorem four_at (q : Nat) (hq : q < 4) : ∃ m : Nat, 1 ≤ m ∧ m ≤ 5 ∧ atD [.int 3, .int 5, .int 4, .int 2] (q : Int) = some (.int (m : Int)) := by
  rw [atD_nat]
  match q, hq with
  | 0, _ => exact ⟨3, by omega, by omega, rfl⟩
  | 1, _ => exact ⟨5, by omega, by omega, rfl⟩
  | 2, _ => exact ⟨4, by omega, by omega, rfl⟩
  | 3, _ => exact ⟨2, by omega, by omega, rfl⟩
theorem lst8 (a b c d e f g h : D) : lstD [a, b, c, d, e, f, g, h] = some (.list [a, b, c, d, e, f, g, h]) := lstD_ok (by simp)
theorem c_law_plain_house {n : Nat} (hn : 6 ≤ n) {ns : List Nat} (d : Draws ns) (a : Nat) (ha : a < 900) : ∃ h, Ph n ("_law_plain_house" : Str) [.list (natsD ns), .int (a : Int)] = some (encH h) ∧ Good5 h := by
  rw [run_eq (d := d_law_plain_house) (by kernel_rfl) (by omega) _ rfl]
  have c := c_law_mixed (n := n - 1) (by omega) d a (by omega)
  generalize mixN ns a = z at c
  obtain ⟨p, hp, mp⟩ := md_ex z 3 (by omega)
  obtain ⟨y3, d3⟩ := fd_ex z 3 (by omega) (by omega)
  obtain ⟨y12, d12⟩ := fd_ex z 12 (by omega) (by omega)
  obtain ⟨y24, d24⟩ := fd_ex z 24 (by omega) (by omega)
  obtain ⟨q4, h4, m4⟩ := md_ex y3 4 (by omega)
  obtain ⟨q8, h8, m8⟩ := md_ex y3 8 (by omega)
  obtain ⟨q3, h3, m3⟩ := md_ex y12 3 (by omega)
  obtain ⟨u4, k4, w4⟩ := md_ex y24 4 (by omega)
  simp -implicitDefEqProofs at mp d3 d12 d24 m4 m8 m3 w4
  have hp3 : p = 0 ∨ p = 1 ∨ p = 2 := by omega
  rcases hp3 with rfl | rfl | rfl
  · obtain ⟨p, e, i1, i2, f, rs, hp, he, ef⟩ := c_law_family (n := n - 1) (by omega) d (a + 1)
    rw [Int.natCast_add] at ef
    have ef : Ph (n - 1) (Str.ofString "_law_family") [.list (natsD ns), .int ((a : Int) + 1)] = some (encH (famH p e i1 i2 f rs)) := ef
    refine ⟨_, ?_, fam_ok p e hp he i1 i2 f rs⟩
    simp -implicitDefEqProofs [d_law_plain_house, c, mp, ef]
  · obtain ⟨h, es, ok⟩ := c_law_straight_house (n := n - 1) (by omega) d (a + 1) (1 + q4) (2 + q3) 4 (by omega) (by omega) (by omega) (by omega)
    rw [Int.natCast_add, Int.natCast_add, Int.natCast_add] at es
    have es : Ph (n - 1) (Str.ofString "_law_straight_house") [.list (natsD ns), .int ((a : Int) + 1), .int (1 + (q4 : Int)), .int (2 + (q3 : Int)), .int 4] = some (encH h) := es
    refine ⟨h, ?_, ok.good (by omega) (by omega) (by omega)⟩
    simp -implicitDefEqProofs [d_law_plain_house, c, mp, es, d3, d12, m4, m3]
  · obtain ⟨j, most, hj, hm, ep⟩ := pairs8 q8 h8
    obtain ⟨m, m1, m5, e4⟩ := four_at u4 k4
    obtain ⟨h, es, ok⟩ := c_law_house (n := n - 1) (by omega) d (a + 1) m j most m1 m5 hj (by omega)
    rw [Int.natCast_add] at es
    have es : Ph (n - 1) (Str.ofString "_law_house") [.list (natsD ns), .int ((a : Int) + 1), .int (m : Int), .int (j : Int), .int (most : Int), .bool false] = some (encH h) := es
    have ew := c_law_without_needs (n := n - 1) (by omega) (h := h) (by have := ok.n; unfold House.n; omega)
    refine ⟨h.noNeed, ?_, (noNeed_house ok).good m5 hj (by omega)⟩
    simp -implicitDefEqProofs [d_law_plain_house, c, mp, es, d3, d24, m8, w4, lst8, ep, e4, ew]
end Q
set_option autoImplicit false
set_option linter.all false
set_option maxRecDepth 100000
set_option maxHeartbeats 4000000
namespace Q
open PySem
theorem in_nats (a : Nat) (l : List Nat) : inD (.int (a : Int)) (.list (natsD l)) = some (decide (a ∈ l)) := by
  have e : natsD l = (l.map fun i : Nat => (i : Int)).map PyData.int := by unfold natsD; simp
  rw [e, in_ints]
  congr 1
  simp only [List.mem_map, decide_eq_decide]
  constructor
  · rintro ⟨b, hb, q⟩
    have : b = a := by omega
    exact this ▸ hb
  · exact fun q => ⟨a, q, rfl⟩
theorem fm_free (len : Nat) (p : Nat → Bool) : ((List.range (len - 1)).filterMap fun k => if p (k + 1) then some (PyData.int ((k : Int) + 1)) else none) = natsD (((List.range (len - 1)).map fun k => k + 1).filter p) := by
  rw [← fm_row, List.filterMap_map]
  congr 1
theorem app_cuts (i : Nat) (ρ : Env) (r : List Nat) (f : List (List Nat)) (h : f.length < 16777216) : appD i ρ (.list (natsD r)) (some (cutsD f)) = stO i (cutsD (f ++ [r])) ρ := by
  show (if (f.map rowD).length < SL then _ else _) = _
  rw [if_pos (by simpa using h)]
  simp [cutsD, rowD]
def rangeS (s : Nat × Nat) : List Nat := (List.range (s.2 - s.1)).map fun k => s.1 + 1 + k
def barL (h : House) (j : Nat) (l : List Nat) : List Nat := match spanOf (placesHit h j l) with
  | none => []
  | some s => rangeS s
theorem mem_rangeS (s : Nat × Nat) (a : Nat) : a ∈ rangeS s ↔ s.1 < a ∧ a ≤ s.2 := by
  unfold rangeS
  rw [List.mem_map]
  constructor
  · rintro ⟨k, hk, rfl⟩
    have := List.mem_range.mp hk
    omega
  · intro h
    exact ⟨a - (s.1 + 1), List.mem_range.mpr (by omega), by omega⟩
theorem bars_all (h : House) (j : Nat) (a : Nat) : a ∈ (parts h.adj (others h.n j)).flatMap (barL h j) ↔ barred (spans h j) a = true := by
  unfold barred spans
  rw [List.any_eq_true, List.mem_flatMap]
  constructor
  · rintro ⟨l, hl, ha⟩
    unfold barL at ha
    cases e : spanOf (placesHit h j l) with
    | none => rw [e] at ha; cases ha
    | some s =>
      rw [e] at ha
      have := (mem_rangeS s a).mp ha
      exact ⟨s, List.mem_filterMap.mpr ⟨l, hl, e⟩, by simp; exact this⟩
  · rintro ⟨s, hs, ha⟩
    obtain ⟨l, hl, e⟩ := List.mem_filterMap.mp hs
    refine ⟨l, hl, ?_⟩
    unfold barL
    rw [e]
    exact (mem_rangeS s a).mpr (by simpa using ha)
theorem places_lt {h : House} {j : Nat} {l : List Nat} : ∀ t ∈ placesHit h j l, t < (h.body j).length := fun t ht => (hit_places.mp ht).1
theorem span_lt {h : House} {j : Nat} {l : List Nat} {s : Nat × Nat} (e : spanOf (placesHit h j l) = some s) : s.1 ≤ s.2 ∧ s.2 < (h.body j).length := by
  obtain ⟨a, b, c⟩ := span_ends (hit_asc h j l) e
  exact ⟨(c _ b).1, places_lt _ b⟩
theorem barL_len {h : House} (g : Good5 h) (j : Nat) (l : List Nat) : (barL h j l).length ≤ 60 := by
  unfold barL
  cases e : spanOf (placesHit h j l) with
  | none => simp
  | some s =>
    have := span_lt e
    have := g.len j
    simp [rangeS]
    omega
def lfI (h : House) (rest : List Nat) (ρ : Env) : Prop := ∃ (f : List (List Nat)) (t2 t3 t4 t5 t6 t7 t8 t9 t10 t11 : Option D), ρ = [some (encH h), some (cutsD f), t2, t3, t4, t5, t6, t7, t8, t9, t10, t11] ∧ f ++ rest.map (fun j => freeOf (h.body j).length (spans h j)) = finest h ∧ ∀ j ∈ rest, j < h.n
def lbI (h : House) (f : List (List Nat)) (j : Nat) (ps : List (List Nat)) (rest : List (List Nat)) (ρ : Env) : Prop := ∃ (bl : List Nat) (t5 t6 t7 t8 t9 t10 t11 : Option D), ρ = [some (encH h), some (cutsD f), some (.int (j : Int)), some (bodyD (h.body j)), some (.list (natsD bl)), t5, t6, t7, t8, t9, t10, t11] ∧ bl ++ rest.flatMap (barL h j) = ps.flatMap (barL h j) ∧ bl.length + 60 * rest.length ≤ 1000 ∧ ∀ l ∈ rest, l ∈ ps
end Q
set_option autoImplicit false
set_option linter.all false
set_option maxRecDepth 100000
set_option maxHeartbeats 4000000
namespace Q
open PySem
theorem cut_any (xs : List D) (m : Nat) : slD none (some (m : Int)) (.list xs) = some (.list (xs.take m)) := by
  show some (PyData.list (cutD xs none (some (m : Int)))) = _
  unfold cutD
  rw [sIx_nat]
  have e0 : sIx xs.length 0 none = 0 := rfl
  rw [e0, Nat.sub_zero, List.drop_zero]
  by_cases h : m ≤ xs.length
  · rw [Nat.min_eq_left h]
  · rw [Nat.min_eq_right (by omega), List.take_of_length_le (by omega), List.take_of_length_le (by omega)]
def chk (len : Nat) : Int → List D → Bool
  | _, [] => true
  | m, x :: r => match x with
    | .int i => decide (0 ≤ i) && decide (i < (len : Int)) && decide (m < i) && chk len i r
    | _ => false
def chI (len : Nat) : Int → List Int → Bool
  | _, [] => true
  | m, i :: r => decide (m < i) && decide (i < (len : Int)) && chI len i r
theorem chk_I (len : Nat) : ∀ (xs : List D) (m : Int), 0 ≤ m → chk len m xs = (intsOf xs).any (chI len m)
  | [], m, _ => rfl
  | x :: r, m, hm => by
    cases x with
    | int i =>
      unfold chk intsOf
      by_cases q : m < i
      · have ih := chk_I len r i (by omega)
        have q0 : 0 ≤ i := by omega
        simp only [q, q0, decide_true, Bool.true_and, Bool.and_true]
        rw [ih]
        cases intsOf r with
        | none => simp
        | some ns => simp [chI, q]
      · cases intsOf r with
        | none => simp [q]
        | some ns => simp [chI, q]
    | _ => rfl
theorem ascB_cons (a b : Int) (r : List Int) : ascB (a :: b :: r) = (decide (a < b) && ascB (b :: r)) := by
  unfold ascB
  simp only [List.length_cons, Nat.add_sub_cancel]
  rw [List.range_succ_eq_map, List.all_cons, List.all_map]
  congr 1
theorem asc_pw : ∀ ns : List Int, ascB ns = true ↔ ns.Pairwise (· < ·)
  | [] => by simp [ascB]
  | [a] => by simp [ascB]
  | a :: b :: r => by
    rw [ascB_cons, Bool.and_eq_true, asc_pw (b :: r), List.pairwise_cons (a := a)]
    constructor
    · rintro ⟨h1, h2⟩
      have h1 : a < b := by simpa using h1
      refine ⟨fun x hx => ?_, h2⟩
      rcases List.mem_cons.mp hx with e | e
      · rw [e]; exact h1
      · exact Int.lt_trans h1 ((List.pairwise_cons.mp h2).1 x e)
    · rintro ⟨h1, h2⟩
      exact ⟨by simpa using h1 b (by simp), h2⟩
theorem chI_pw (len : Nat) : ∀ (ns : List Int) (m : Int), chI len m ns = true ↔ (m :: ns).Pairwise (· < ·) ∧ ∀ i ∈ ns, i < (len : Int)
  | [], m => by simp [chI]
  | i :: r, m => by
    unfold chI
    rw [Bool.and_eq_true, Bool.and_eq_true, chI_pw len r i, List.pairwise_cons (a := m)]
    constructor
    · rintro ⟨⟨h1, h2⟩, h3, h4⟩
      have h1 : m < i := by simpa using h1
      have h2 : i < (len : Int) := by simpa using h2
      refine ⟨⟨fun x hx => ?_, h3⟩, fun x hx => ?_⟩
      · rcases List.mem_cons.mp hx with e | e
        · rw [e]; exact h1
        · exact Int.lt_trans h1 ((List.pairwise_cons.mp h3).1 x e)
      · rcases List.mem_cons.mp hx with e | e
        · rw [e]; exact h2
        · exact h4 x e
    · rintro ⟨⟨h1, h3⟩, h4⟩
      exact ⟨⟨by simpa using h1 i (by simp), by simpa using h4 i (by simp)⟩, h3, fun x hx => h4 x (by simp [hx])⟩
theorem row_chk (len : Nat) (xs : List D) : rowB len (.list xs) = chk len 0 xs := by
  rw [chk_I len xs 0 (by omega)]
  cases e : intsOf xs with
  | none => simp [rowB, intsD, e]
  | some ns =>
    have e2 : rowB len (.list xs) = (ascB ns && ns.all fun i => decide (1 ≤ i) && decide (i < len)) := by simp [rowB, intsD, e]
    rw [e2, Option.any_some, Bool.eq_iff_iff, Bool.and_eq_true, asc_pw, chI_pw, List.pairwise_cons, List.all_eq_true]
    constructor
    · rintro ⟨h1, h2⟩
      have h2 : ∀ x ∈ ns, 1 ≤ x ∧ x < (len : Int) := fun x hx => by simpa using h2 x hx
      exact ⟨⟨fun x hx => by have := (h2 x hx).1; omega, h1⟩, fun x hx => (h2 x hx).2⟩
    · rintro ⟨⟨h0, h1⟩, h2⟩
      exact ⟨h1, fun x hx => by have := h0 x hx; have := h2 x hx; simp; omega⟩
theorem not_list {d : D} (h : ∀ xs, d ≠ .list xs) (hn : noD d = true) : isiD [.list] d = some (.bool false) ∧ intsD d = none := by
  cases d with
  | list xs => exact absurd rfl (h xs)
  | dict _ => cases hn
  | _ => exact ⟨rfl, rfl⟩
def mx (pre : List Int) : Int := pre.foldl (fun m x => if m < x then x else m) 0
theorem mx_add (pre : List Int) (i : Int) (h : mx pre < i) : mx (pre ++ [i]) = i := by
  unfold mx at h ⊢
  rw [List.foldl_append]
  show (if _ < i then i else _) = i
  rw [if_pos h]
theorem max_pre (pre : List Int) : biD .max (.list (.int 0 :: pre.map .int)) = some (.int (mx pre)) := by
  show ((intsOf _).bind imax).map PyData.int = _
  rw [show (PyData.int 0 :: pre.map PyData.int) = (0 :: pre).map PyData.int from rfl, intsOf_ints]
  rfl
def icI (h : House) (d : D) (j len : Nat) (xs : List D) (rest : List Nat) (ρ : Env) : Prop := ∃ (k : Nat) (pre : List Int) (t : Option D), rest = List.range' k (xs.length - k) ∧ k ≤ xs.length ∧ xs.take k = pre.map .int ∧ 0 ≤ mx pre ∧ chk len (mx pre) (xs.drop k) = chk len 0 xs ∧ ρ = [some (encH h), some d, some (.int (j : Int)), some (.list xs), t]
end Q
set_option autoImplicit false
set_option linter.all false
set_option maxRecDepth 100000
set_option maxHeartbeats 4000000
namespace Q
open PySem
theorem pl_noD {n : Nat} {d : D} (h : plB (n + 1) d = true) : noD d = true := by
  cases d <;> first | rfl | (simp [plB] at h)
theorem pl_items {n : Nat} {xs : List D} (h : plB (n + 1) (.list xs) = true) : xs.length ≤ 1000 ∧ ∀ x ∈ xs, plB n x = true := by simpa [plB] using h
theorem pl_noD2 {n : Nat} {d : D} (h : plB (n + 2) d = true) : noD2 d = true := by
  cases d with
  | list xs =>
    show xs.all noD = true
    rw [List.all_eq_true]
    exact fun x hx => pl_noD ((pl_items h).2 x hx)
  | dict _ => simp [plB] at h
  | _ => first | rfl | (simp [plB] at h)
theorem pl_noD3 {n : Nat} {d : D} (h : plB (n + 3) d = true) : noD3 d = true := by
  cases d with
  | list xs =>
    show xs.all noD2 = true
    rw [List.all_eq_true]
    exact fun x hx => pl_noD2 ((pl_items h).2 x hx)
  | dict _ => simp [plB] at h
  | _ => first | rfl | (simp [plB] at h)
theorem pl_len {n : Nat} {d : D} (h : plB (n + 1) d = true) : lenD d ≤ 1000 := by
  cases d with
  | list xs => exact (pl_items h).1
  | tuple xs =>
    have : xs.length ≤ 1000 ∧ ∀ x ∈ xs, plB n x = true := by simpa [plB] using h
    exact this.1
  | _ => simp [lenD]
theorem pl_list {n : Nat} {xs : List D} (h1 : xs.length ≤ 1000) (h2 : ∀ x ∈ xs, plB n x = true) : plB (n + 1) (.list xs) = true := by simpa [plB] using ⟨h1, h2⟩
theorem pl_tup {n : Nat} {xs : List D} (h1 : xs.length ≤ 1000) (h2 : ∀ x ∈ xs, plB n x = true) : plB (n + 1) (.tuple xs) = true := by simpa [plB] using ⟨h1, h2⟩
theorem pl_nats {n : Nat} (r : List Nat) : ∀ x ∈ natsD r, plB (n + 1) x = true := by
  intro x hx
  obtain ⟨a, _, rfl⟩ := List.mem_map.mp hx
  rfl
theorem cut_sub (xs : List D) (lo hi : Option Int) : (cutD xs lo hi).length ≤ xs.length ∧ ∀ x ∈ cutD xs lo hi, x ∈ xs := by
  unfold cutD
  refine ⟨by rw [List.length_take, List.length_drop]; omega, fun x hx => List.mem_of_mem_drop (List.mem_of_mem_take hx)⟩
theorem evens_sub {α : Type} : ∀ xs : List α, (evens xs).length ≤ xs.length ∧ ∀ x ∈ evens xs, x ∈ xs
  | [] => by simp [evens]
  | [a] => by simp [evens]
  | a :: b :: r => by
    obtain ⟨h1, h2⟩ := evens_sub r
    unfold evens
    refine ⟨by simp; omega, fun x hx => ?_⟩
    rcases List.mem_cons.mp hx with e | e
    · simp [e]
    · simp [h2 x e]
theorem mem_app {P : D → Prop} {xs ys : List D} (h1 : ∀ x ∈ xs, P x) (h2 : ∀ x ∈ ys, P x) : ∀ x ∈ xs ++ ys, P x := by
  intro x hx
  rcases List.mem_append.mp hx with e | e
  · exact h1 x e
  · exact h2 x e
theorem mem_one {P : D → Prop} {y : D} (h : P y) : ∀ x ∈ [y], P x := by
  intro x hx
  rw [List.mem_singleton.mp hx]; exact h
theorem fm_each {α : Type} {f : D → Option (Option D)} {e : α → D} {P : D → Prop} {as : List α} (h : ∀ a ∈ as, ∃ y, f (e a) = some (some y) ∧ P y) : ∃ ys, fmM f (as.map e) = some ys ∧ ys.length = as.length ∧ ∀ y ∈ ys, P y := by
  obtain ⟨ss, h1, h2, h3⟩ := fmM_ex (σ := D) (enc := id) (P := P) (f := f) (e := e) (as := as) fun a ha => by
    obtain ⟨y, h1, h2⟩ := h a ha
    exact ⟨y, h2, h1⟩
  exact ⟨ss, by rw [h3]; simp, h1, h2⟩
theorem str_pl (n k : Nat) (hk : k ≤ 60) : ∃ s : Str, biD .str (.int (k : Int)) = some (.str s) := by
  have : biD .str (.int (k : Int)) = gate (decide (0 ≤ (k : Int)) && decide ((k : Int) < 1000000000)) (.str (Str.ofString (toString (k : Int)))) := rfl
  rw [this]
  unfold gate
  rw [if_pos (by simp; omega)]
  exact ⟨_, rfl⟩
def spI (h : House) (c : List (List Nat)) (ns : List Nat) (B : Nat) (rest : List Nat) (ρ : Env) : Prop := ∃ (l : List D) (t4 t5 t6 t7 t8 : Option D), ρ = [some (encH h), some (cutsD c), some (.list (natsD ns)), some (.list l), t4, t5, t6, t7, t8] ∧ (∀ v ∈ l, plB 7 v = true) ∧ l.length + 11 * rest.length ≤ 62 ∧ ∀ j ∈ rest, j < h.n
def sqI (h : House) (c : List (List Nat)) (ns : List Nat) (B : Nat) (u4 u5 u6 u7 : Option D) (rest : List D) (ρ : Env) : Prop := ∃ (l : List D) (t8 : Option D), ρ = [some (encH h), some (cutsD c), some (.list (natsD ns)), some (.list l), u4, u5, u6, u7, t8] ∧ (∀ v ∈ l, plB 7 v = true) ∧ l.length + rest.length ≤ B ∧ ∀ x ∈ rest, plB 6 x = true
end Q
set_option autoImplicit false
set_option linter.all false
set_option maxRecDepth 100000
set_option maxHeartbeats 4000000
namespace Q
open PySem
def crossAll (h : House) (c : List (List Nat)) : Bool := (List.range h.n).any (crossJ h c)
theorem crossAll_f {h : House} {c : List (List Nat)} : crossAll h c = false ↔ ∀ j, j < h.n → crossJ h c j = false := by
  unfold crossAll
  rw [List.any_eq_false]
  simp
theorem paper_ix0 {h : House} {c : List (List Nat)} {d : D} (p : paperOk h c d) : ixD d (.int 0) = some (.str (if crossAll h c then ("crossed" : Str) else ("right" : Str))) := by
  rcases p with ⟨h1, rfl⟩ | ⟨j, h1, h2, _, a, b, l, rfl, _⟩
  · rw [crossAll_f.mpr h1]; rfl
  · have : crossAll h c = true := by
      cases q : crossAll h c with
      | true => rfl
      | false => rw [crossAll_f.mp q j h1] at h2; cases h2
    rw [this]; rfl
theorem rows_cuts {h : House} (g : Good5 h) {c : List (List Nat)} (hl : c.length = h.n) (hr : ∀ j, j < h.n → RowOk (h.body j).length (c.getD j [])) : Cuts h c := by
  have out : ∀ j, ¬ j < h.n → c.getD j [] = [] := fun j hj => by
    rw [List.getD_eq_getElem?_getD, List.getElem?_eq_none (by omega)]; rfl
  refine ⟨hl, fun j p hp => ?_, fun j => ?_⟩
  · by_cases q : j < h.n
    · exact Nat.le_of_lt ((hr j q).inn p hp).2
    · rw [out j q] at hp; cases hp
  · by_cases q : j < h.n
    · have r := hr j q
      have nd : (c.getD j []).Nodup := r.asc.imp fun h => Nat.ne_of_lt h
      have := L2.nat_nodup_len (c.getD j []) (List.range (h.body j).length) nd fun p hp => List.mem_range.mpr (r.inn p hp).2
      rw [List.length_range] at this
      have := g.len j
      omega
    · rw [out j q]; simp
theorem finest_row (h : House) (j : Nat) (hj : j < h.n) : RowOk (h.body j).length ((finest h).getD j []) := by
  rw [finest_get h j hj]; exact free_row _ _
theorem finest_len (h : House) : (finest h).length = h.n := by simp [finest]
theorem finest_cuts_ok {h : House} (g : Good5 h) : Cuts h (finest h) := rows_cuts g (finest_len h) (finest_row h)
theorem finest_no {h : House} (g : Good5 h) (j : Nat) (hj : j < h.n) : crossJ h (finest h) j = false := by
  rw [cross_no g hj (finest_row h j hj), finest_get h j hj]
  exact fun p hp => (free_mem.mp hp).2.2
theorem finest_all {h : House} (g : Good5 h) : crossAll h (finest h) = false := crossAll_f.mpr (finest_no g)
theorem draw_get (ns : List Nat) (a : Nat) (h : House) (j : Nat) (hj : j < h.n) : (drawCuts ns a h).getD j [] = drawRow ns (a + j) (h.body j).length := by
  unfold drawCuts
  rw [List.getD_eq_getElem?_getD, List.getElem?_map, List.getElem?_range hj]; rfl
theorem draw_ok (ns : List Nat) (a : Nat) (h : House) (j : Nat) (hj : j < h.n) : RowOk (h.body j).length ((drawCuts ns a h).getD j []) := by
  rw [draw_get ns a h j hj]; exact draw_row _ _ _
theorem draw_cuts {h : House} (g : Good5 h) (ns : List Nat) (a : Nat) : Cuts h (drawCuts ns a h) := rows_cuts g (by simp [drawCuts]) (draw_ok ns a h)
theorem not_free {h : House} {j p : Nat} (hj : j < h.n) (h1 : 1 ≤ p) (h2 : p < (h.body j).length) : p ∉ (finest h).getD j [] ↔ barred (spans h j) p = true := by
  rw [finest_get h j hj, free_mem]
  cases barred (spans h j) p <;> simp [h1, h2]
theorem cross_finer {h : House} (g : Good5 h) {c : List (List Nat)} {j : Nat} (hj : j < h.n) (ro : RowOk (h.body j).length (c.getD j [])) : crossJ h c j = (c.getD j []).any fun p => !((finest h).getD j []).contains p := by
  rw [Bool.eq_iff_iff, cross_iff g hj ro, List.any_eq_true]
  constructor
  · rintro ⟨p, hp, e⟩
    exact ⟨p, hp, by simpa using (not_free hj (ro.inn p hp).1 (ro.inn p hp).2).mpr e⟩
  · rintro ⟨p, hp, e⟩
    exact ⟨p, hp, (not_free hj (ro.inn p hp).1 (ro.inn p hp).2).mp (by simpa using e)⟩
def moreCuts (h : House) (j o : Nat) : List (List Nat) := (finest h).take j ++ [isort ((finest h).getD j [] ++ [o])] ++ (finest h).drop (j + 1)
theorem more_row {len : Nat} {r : List Nat} {o : Nat} (ro : RowOk len r) (h1 : 1 ≤ o) (h2 : o < len) (hn : o ∉ r) : RowOk len (isort (r ++ [o])) := by
  have pm : (isort (r ++ [o])).Perm (r ++ [o]) := List.mergeSort_perm _ _
  have nd : (r ++ [o]).Nodup := by
    rw [List.nodup_append]
    exact ⟨ro.asc.imp fun h => Nat.ne_of_lt h, by simp, fun a ha b hb e => by rw [List.mem_singleton.mp hb] at e; exact hn (e ▸ ha)⟩
  have nd2 : (isort (r ++ [o])).Nodup := pm.nodup_iff.mpr nd
  have so : (isort (r ++ [o])).Pairwise fun a b => (fun a b => decide (a ≤ b)) a b = true := List.pairwise_mergeSort (fun a b c => by simp; omega) (fun a b => by simp; omega) _
  refine ⟨?_, fun p hp => ?_⟩
  · have := so.and nd2
    exact this.imp fun ⟨x, y⟩ => by simp at x; omega
  · rcases List.mem_append.mp (pm.mem_iff.mp hp) with e | e
    · exact ro.inn p e
    · rw [List.mem_singleton.mp e]; exact ⟨h1, h2⟩
theorem more_get {h : House} {j o : Nat} (hj : j < h.n) : (moreCuts h j o).length = h.n ∧ (moreCuts h j o).getD j [] = isort ((finest h).getD j [] ++ [o]) ∧ ∀ k, k ≠ j → (moreCuts h j o).getD k [] = (finest h).getD k [] := by
  have fl := finest_len h
  have e : moreCuts h j o = (finest h).set j (isort ((finest h).getD j [] ++ [o])) := by
    unfold moreCuts
    rw [List.set_eq_take_append_cons_drop, if_pos (by omega)]
    simp
  rw [e]
  refine ⟨by simp [fl], ?_, fun k hk => ?_⟩
  · rw [List.getD_eq_getElem?_getD (l := List.set _ _ _), List.getElem?_set_self (by omega)]; rfl
  · rw [List.getD_eq_getElem?_getD (l := List.set _ _ _), List.getElem?_set_ne (fun q => hk q.symm), List.getD_eq_getElem?_getD]
theorem more_paper {h : House} (g : Good5 h) {j o : Nat} (hj : j < h.n) (h1 : 1 ≤ o) (h2 : o < (h.body j).length) (hn : o ∉ (finest h).getD j []) : Cuts h (moreCuts h j o) ∧ ∀ d, paperOk h (moreCuts h j o) d → ∃ a b l, d = .tuple [.str ("crossed" : Str), .int (j : Int), a, b, l] := by
  obtain ⟨m1, m2, m3⟩ := more_get (o := o) hj
  have rows : ∀ k, k < h.n → RowOk (h.body k).length ((moreCuts h j o).getD k []) := fun k hk => by
    by_cases q : k = j
    · subst q; rw [m2]; exact more_row (finest_row h k hk) h1 h2 hn
    · rw [m3 k q]; exact finest_row h k hk
  have cj : crossJ h (moreCuts h j o) j = true := by
    rw [cross_iff g hj (rows j hj)]
    exact ⟨o, by rw [m2, isort_mem]; simp, (not_free hj h1 h2).mp hn⟩
  have ck : ∀ k, k < h.n → k ≠ j → crossJ h (moreCuts h j o) k = false := fun k hk q => by
    have e : crossJ h (moreCuts h j o) k = crossJ h (finest h) k := by
      unfold crossJ xsOf
      rw [m3 k q]
    rw [e]; exact finest_no g k hk
  refine ⟨rows_cuts g m1 rows, fun d p => ?_⟩
  rcases p with ⟨p1, _⟩ | ⟨i, p1, p2, _, a, b, l, rfl, _⟩
  · rw [p1 j hj] at cj; cases cj
  · by_cases q : i = j
    · subst q; exact ⟨_, _, _, rfl⟩
    · rw [ck i p1 q] at p2; cases p2
theorem pl_cuts {h : House} (g : Good5 h) {c : List (List Nat)} (hc : Cuts h c) : plB 7 (cutsD c) = true ∧ ∀ r ∈ c, r.length ≤ 100 := by
  have hr : ∀ r ∈ c, r.length ≤ 100 := fun r hr => by
    obtain ⟨j, hj, rfl⟩ := List.mem_iff_getElem.mp hr
    have := hc.few j
    rw [List.getD_eq_getElem?_getD, List.getElem?_eq_getElem hj] at this
    exact this
  refine ⟨pl_list (by have := g.n; simp [hc.len]; omega) fun x hx => ?_, hr⟩
  obtain ⟨r, hr2, rfl⟩ := List.mem_map.mp hx
  exact pl_list (by have := hr r hr2; simp; omega) (pl_nats r)
theorem row_60 {h : House} (g : Good5 h) {c : List (List Nat)} (hl : c.length = h.n) (hr : ∀ j, j < h.n → RowOk (h.body j).length (c.getD j [])) : ∀ r ∈ c, r.length ≤ 60 := by
  intro r hr2
  obtain ⟨j, hj, rfl⟩ := List.mem_iff_getElem.mp hr2
  have q := hr j (by omega)
  rw [List.getD_eq_getElem?_getD, List.getElem?_eq_getElem hj] at q
  have q : RowOk (h.body j).length c[j] := q
  have nd : (c[j]).Nodup := q.asc.imp fun h => Nat.ne_of_lt h
  have := L2.nat_nodup_len (c[j]) (List.range (h.body j).length) nd fun p hp => List.mem_range.mpr (q.inn p hp).2
  rw [List.length_range] at this
  have := g.len j
  omega
end Q
set_option autoImplicit false
set_option linter.all false
set_option maxRecDepth 100000
set_option maxHeartbeats 4000000
namespace Q
open PySem
theorem placeB_int (s k : Nat) : placeB s (.int (k : Int)) = decide (k < s) := by simp [placeB]
theorem placeB_ok {s : Nat} {d : D} (h : placeB s d = true) : ∃ k : Nat, d = .int (k : Int) ∧ k < s := by
  cases d with
  | int i =>
    have h : 0 ≤ i ∧ i < (s : Int) := by simpa [placeB] using h
    exact ⟨i.toNat, by congr 1; omega, by omega⟩
  | _ => cases h
theorem c_is_index_any {n : Nat} (hn : 2 ≤ n) (d : D) (hd : noD d = true) (s : Nat) : Ph n ("is_index" : Str) [d, .int (s : Int)] = some (.bool (placeB s d)) := by
  rw [run_eq (d := d_is_index) (by kernel_rfl) (by omega) _ rfl]
  have c := c_is_number (n := n - 1) (by omega) d hd
  cases d with
  | dict _ => cases hd
  | int i =>
    have c : Ph (n - 1) (Str.ofString "is_number") [.int i] = some (.bool true) := c
    by_cases q : 0 ≤ i <;> simp -implicitDefEqProofs [d_is_index, c, placeB, q]
  | _ =>
    have c : Ph (n - 1) (Str.ofString "is_number") [_] = some (.bool false) := c
    simp -implicitDefEqProofs [d_is_index, c, placeB]
def tagB (t : Str) (m : Nat) : D → Bool
  | .tuple ds => decide (ds.length = m) && (match ds with
    | .str s :: _ => decide (s = t)
    | _ => false)
  | _ => false
theorem tagB_ok {t : Str} {m : Nat} {v : D} (h : tagB t m v = true) : ∃ r, v = .tuple (.str t :: r) ∧ r.length + 1 = m := by
  cases v with
  | tuple ds =>
    cases ds with
    | nil => simp [tagB] at h
    | cons a r =>
      cases a with
      | str s =>
        simp [tagB] at h
        obtain ⟨h1, rfl⟩ := h
        exact ⟨r, rfl, h1⟩
      | _ => simp [tagB] at h
  | _ => cases h
theorem c_is_tagged_any {n : Nat} (hn : 1 ≤ n) (v : D) (hv : noD v = true) (hv2 : ∀ ds, v = .tuple ds → ∀ x ∈ ds, noD x = true) (t : Str) (m : Nat) (hm : 1 ≤ m) : Ph n ("is_tagged" : Str) [v, .str t, .int (m : Int)] = some (.bool (tagB t m v)) := by
  rw [run_eq (d := d_is_tagged) (by kernel_rfl) (by omega) _ rfl]
  cases v with
  | dict _ => cases hv
  | tuple ds =>
    have hx := hv2 ds rfl
    by_cases q : ds.length = m
    · have q' : (ds.length : Int) = (m : Int) := by omega
      cases ds with
      | nil => simp at q; omega
      | cons a r =>
        have ha := hx a (by simp)
        have i1 := isiD_ok ha [.str]
        simp only [List.length_cons] at q q'
        cases a with
        | dict _ => cases ha
        | str s =>
          have i1 : isiD [.str] (.str s) = some (.bool true) := i1
          have q' : (r.length : Int) + 1 = (m : Int) := by omega
          simp -implicitDefEqProofs [d_is_tagged, isiD, isTy, q', tagB, q]
        | _ =>
          have q' : (r.length : Int) + 1 = (m : Int) := by omega
          simp -implicitDefEqProofs [d_is_tagged, isiD, isTy, q', tagB, q]
    · have q' : ¬ (ds.length : Int) = (m : Int) := by omega
      simp -implicitDefEqProofs [d_is_tagged, isiD, isTy, q', tagB, q]
  | _ => simp -implicitDefEqProofs [d_is_tagged, isiD, isTy, tagB]
theorem uins_len (i : Int) : ∀ l : List Int, l.Pairwise (· < ·) → (uins i l).length = if i ∈ l then l.length else l.length + 1
  | [], _ => by simp [uins]
  | a :: r, h => by
    obtain ⟨h1, h2⟩ := List.pairwise_cons.mp h
    have ih := uins_len i r h2
    unfold uins
    by_cases q1 : i < a
    · have : ¬ i ∈ a :: r := fun z => by
        rcases List.mem_cons.mp z with e | e
        · omega
        · have := h1 i e; omega
      simp [q1, this]
    · by_cases q2 : i = a
      · simp [q2]
      · have e : (i ∈ a :: r) ↔ i ∈ r := by simp [q2]
        by_cases q3 : i ∈ r <;> simp [q1, q2, q3, ih]
theorem usort_len : ∀ l : List Int, (usort l).length ≤ l.length ∧ ((usort l).length = l.length ↔ l.Nodup)
  | [] => by simp [usort]
  | a :: r => by
    obtain ⟨h1, h2⟩ := usort_len r
    have e : usort (a :: r) = uins a (usort r) := rfl
    rw [e, uins_len a _ usort_ord]
    have m : a ∈ usort r ↔ a ∈ r := usort_mem
    by_cases q : a ∈ r
    · simp [m, q]; omega
    · simp [m, q, h2]; omega
theorem lset_nats {l : List Nat} (h : l.length ≤ 60) : ∃ m : Nat, biD .lset (.list (natsD l)) = some (.int (m : Int)) ∧ (m = l.length ↔ l.Nodup) := by
  have e : natsD l = (l.map fun i : Nat => (i : Int)).map PyData.int := by unfold natsD; simp
  have hh : biD .lset (.list (natsD l)) = (intsOf (natsD l)).bind fun ns => gate (decide (ns.length ≤ 60)) (.int (usort ns).length) := rfl
  rw [hh, e, intsOf_ints, Option.bind_some]
  unfold gate
  rw [if_pos (by simpa using h)]
  refine ⟨_, rfl, ?_⟩
  have := (usort_len (l.map fun i : Nat => (i : Int))).2
  rw [List.length_map] at this
  rw [this]
  unfold List.Nodup
  rw [List.pairwise_map]
  constructor
  · exact fun h => h.imp fun h e => h (by rw [e])
  · exact fun h => h.imp fun h e => h (by omega)
theorem row_parse {n : Nat} : ∀ {xs : List D}, xs.all (placeB n) = true → ∃ l : List Nat, xs = natsD l ∧ ∀ o ∈ l, o < n
  | [], _ => ⟨[], rfl, by simp⟩
  | x :: xs, h => by
    obtain ⟨h1, h2⟩ := Bool.and_eq_true_iff.mp (show (placeB n x && xs.all (placeB n)) = true from h)
    obtain ⟨k, rfl, hk⟩ := placeB_ok h1
    obtain ⟨l, rfl, hl⟩ := row_parse h2
    exact ⟨k :: l, rfl, by simpa using ⟨hk, hl⟩⟩
theorem chB_all (adj : Nat → Nat → Bool) : ∀ l : List Nat, chB adj l = (List.range (l.length - 1)).all fun k => adj (l.getD k 0) (l.getD (k + 1) 0)
  | [] => rfl
  | [a] => rfl
  | a :: b :: r => by
    have ih := chB_all adj (b :: r)
    show (adj a b && chB adj (b :: r)) = _
    rw [ih]
    simp only [List.length_cons, Nat.add_sub_cancel]
    rw [List.range_succ_eq_map, List.all_cons, List.all_map]
    congr 1
theorem c_is_crossing {n : Nat} (hn : 5 ≤ n) {h : House} (g : Good5 h) {xs : List (List Acc)} (hx : ∀ x ∈ xs, x.length ≤ 60) {i j : Nat} (hi : i < xs.length) (hj : j < xs.length) (jd : D) {l : List Nat} (hl : ∀ o ∈ l, o < h.n) (ne : l ≠ []) (l60 : l.length ≤ 1000) :
    Ph n ("is_crossing" : Str) [encH h, .list (xs.map encW), jd, .int (i : Int), .int (j : Int), rowD l] = some (.bool (chB h.adj l && (meet (xs.getD i []) (h.acc (l.getD 0 0)) && meet (h.acc (lastN l)) (xs.getD j [])))) := by
  rw [run_eq (d := d_is_crossing) (by kernel_rfl) (by omega) _ rfl]
  have ll : biD .len (rowD l) = some (.int (l.length : Int)) := by simp [rowD]
  have hr := rng_one l.length (by omega)
  generalize hB : (chB h.adj l && (meet (xs.getD i []) (h.acc (l.getD 0 0)) && meet (h.acc (lastN l)) (xs.getD j []))) = B
  simp -implicitDefEqProofs [d_is_crossing, ll, hr, Option.bind_assoc]
  have hmem : ∀ k, k < l.length → l.getD k 0 < h.n := fun k hk => by
    rw [List.getD_eq_getElem?_getD, List.getElem?_eq_getElem hk]; exact hl _ (List.getElem_mem hk)
  have hpos : 0 < l.length := List.length_pos_iff.mpr ne
  refine goF_check (Z := fun (o : Option D) => o = some (.bool B)) (as := List.range (l.length - 1)) (e := fun (k : Nat) => PyData.int ((k : Int) + 1)) (fun y => [some (encH h), some (.list (xs.map encW)), some jd, some (.int (i : Int)), some (.int (j : Int)), some (rowD l), y]) (fun k : Nat => h.adj (l.getD k 0) (l.getD (k + 1) 0)) (.bool false) (fun k hk y => ?_) (fun y hall => ?_) fun hall => ?_
  · have hk : k < l.length - 1 := by simpa using hk
    have a1 := rowD_ix l k (by omega)
    have a2 := rowD_ix l (k + 1) (by omega)
    rw [Int.natCast_add] at a2
    have a2 : ixD (rowD l) (.int ((k : Int) + 1)) = some (.int (l.getD (k + 1) 0 : Nat)) := a2
    have cm := c_jobs_meet (n := n - 1) (by omega) g (hmem k (by omega)) (hmem (k + 1) (by omega))
    generalize l.getD k 0 = u at a1 cm ⊢
    generalize l.getD (k + 1) 0 = w at a2 cm ⊢
    cases q : h.adj u w <;> simp -implicitDefEqProofs [a1, a2, cm, q]
  · rw [← chB_all] at hall
    have hxi : xs.getD i [] ∈ xs := by
      rw [List.getD_eq_getElem?_getD, List.getElem?_eq_getElem hi]; exact List.getElem_mem _
    have hxj : xs.getD j [] ∈ xs := by
      rw [List.getD_eq_getElem?_getD, List.getElem?_eq_getElem hj]; exact List.getElem_mem _
    have b1 := at_accs xs i hi
    have b2 := at_accs xs j hj
    have a1 := rowD_ix l 0 (by omega)
    have a1 : ixD (rowD l) (.int 0) = some (.int (l.getD 0 0 : Nat)) := a1
    have a2 : ixD (rowD l) (.int (-1)) = some (.int (lastN l : Nat)) := at_last ne
    have hla : lastN l < h.n := by
      unfold lastN
      rw [List.getLast?_eq_some_getLast ne]
      exact hl _ (List.getLast_mem ne)
    have c1 := c_body_accesses (n := n - 1) (by omega) g (hmem 0 hpos)
    have c2 := c_body_accesses (n := n - 1) (by omega) g hla
    have m1 := c_do_meet (n := n - 1) (by omega) (hx _ hxi) (g.acc (l.getD 0 0))
    have m2 := c_do_meet (n := n - 1) (by omega) (g.acc (lastN l)) (hx _ hxj)
    rw [hall, Bool.true_and] at hB
    rw [← hB]
    generalize xs.getD i [] = xi at b1 m1 ⊢
    generalize xs.getD j [] = xj at b2 m2 ⊢
    generalize l.getD 0 0 = u at a1 c1 m1 ⊢
    cases q : meet xi (h.acc u) <;> rw [q] at m1 <;> simp -implicitDefEqProofs [a1, a2, c1, c2, m1, m2, b1, b2]
  · rw [← chB_all] at hall
    rw [hall] at hB
    rw [← hB]
    simp
end Q
set_option autoImplicit false
set_option linter.all false
set_option maxRecDepth 100000
set_option maxHeartbeats 4000000
namespace Q
open PySem
structure CrossF (h : House) (c : List (List Nat)) (job i j : Nat) (l : List Nat) : Prop where
  jlt : job < h.n
  jx : j < (xsOf h c job).length
  ij : i < j
  ne : l ≠ []
  inn : ∀ o ∈ l, o < h.n ∧ o ≠ job
  nd : l.Nodup
  ch : chB h.adj l = true
  hd : meet ((xsOf h c job).getD i []) (h.acc (l.getD 0 0)) = true
  la : meet (h.acc (lastN l)) ((xsOf h c job).getD j []) = true
def CrossV (h : House) (c : List (List Nat)) (v : D) : Prop := ∃ (job i j : Nat) (l : List Nat), v = .tuple [.str ("crossed" : Str), .int (job : Int), .int (i : Int), .int (j : Int), rowD l] ∧ CrossF h c job i j l
theorem nats_inj : ∀ {a b : List Nat}, natsD a = natsD b → a = b
  | [], [], _ => rfl
  | [], _ :: _, h => by cases h
  | _ :: _, [], h => by cases h
  | x :: a, y :: b, h => by
    injection h with h1 h2
    injection h1 with h1
    rw [nats_inj h2, show x = y by omega]
theorem row_inj {a b : List Nat} (h : rowD a = rowD b) : a = b := by
  injection h with h
  exact nats_inj h
theorem cross_inv {h : House} {c : List (List Nat)} {t x1 x2 x3 x4 : D} (k : CrossV h c (.tuple [t, x1, x2, x3, x4])) : ∃ (job i j : Nat) (l : List Nat), x1 = .int (job : Int) ∧ x2 = .int (i : Int) ∧ x3 = .int (j : Int) ∧ x4 = rowD l ∧ CrossF h c job i j l := by
  obtain ⟨job, i, j, l, e, f⟩ := k
  injection e with e
  obtain ⟨_, e1, e2, e3, e4, _⟩ : t = _ ∧ x1 = .int (job : Int) ∧ x2 = .int (i : Int) ∧ x3 = .int (j : Int) ∧ x4 = rowD l ∧ True := by simpa using e
  exact ⟨job, i, j, l, e1, e2, e3, e4, f⟩
theorem pl_tups {n : Nat} {xs : List D} (h : plB (n + 1) (.tuple xs) = true) : xs.length ≤ 1000 ∧ ∀ x ∈ xs, plB n x = true := by simpa [plB] using h
theorem int_inj {a b : Nat} (h : PyData.int (a : Int) = PyData.int (b : Int)) : a = b := by
  injection h with h
  omega
def isJ (job : Nat) : D → Bool
  | .int k => decide (k = (job : Int))
  | _ => false
def Judge (o : Option D) (P : Prop) : Prop := ∃ b, o = some (.bool b) ∧ (b = true ↔ P)
theorem judge_f {o : Option D} {P : Prop} (h : o = some (.bool false)) (k : ¬ P) : Judge o P := ⟨false, h, nofun, fun p => absurd p k⟩
theorem judge_b {o : Option D} {P : Prop} {b : Bool} (h : o = some (.bool b)) (k : b = true ↔ P) : Judge o P := ⟨b, h, k⟩
theorem c_shows_crossed {n : Nat} (hn : 7 ≤ n) {h : House} (g : Good5 h) {c : List (List Nat)} (hc : Cuts h c) (v : D) (hv : plB 7 v = true) (hs : ∀ ds, v = .tuple ds → ∀ x ∈ ds, lenD x ≤ 60) : Judge (Ph n ("shows_crossed" : Str) [encH h, cutsD c, v]) (CrossV h c v) := by
  rw [run_eq (d := d_shows_crossed) (by kernel_rfl) (by omega) _ rfl]
  have hjl : h.jobs.length = h.n := rfl
  have hn5 := g.n
  have ct := c_is_tagged_any (n := n - 1) (by omega) v (pl_noD hv) (fun ds e x hx => pl_noD (n := 5) ((pl_tups (e ▸ hv)).2 x hx)) (Str.ofString "crossed") 5 (by omega)
  by_cases q : tagB (Str.ofString "crossed") 5 v = true
  case neg =>
    rw [Bool.not_eq_true] at q
    rw [q] at ct
    refine judge_f ?_ ?_
    · have ct : Ph (n - 1) (Str.ofString "is_tagged") [v, .str (Str.ofString "crossed"), .int 5] = some (.bool false) := ct
      simp -implicitDefEqProofs [d_shows_crossed, ct]
    · rintro ⟨job, i, j, l, rfl, _⟩
      have : tagB (Str.ofString "crossed") 5 (.tuple [.str ("crossed" : Str), .int (job : Int), .int (i : Int), .int (j : Int), rowD l]) = true := by
        simp [tagB]
      rw [this] at q
      cases q
  rw [q] at ct
  have ct : Ph (n - 1) (Str.ofString "is_tagged") [v, .str (Str.ofString "crossed"), .int 5] = some (.bool true) := ct
  obtain ⟨r, rfl, hr⟩ := tagB_ok q
  obtain ⟨x1, x2, x3, x4, rfl⟩ : ∃ x1 x2 x3 x4, r = [x1, x2, x3, x4] := by
    match r, hr with
    | [a, b, c, d], _ => exact ⟨a, b, c, d, rfl⟩
  have hp := (pl_tups hv).2
  have p1 := hp x1 (by simp)
  have p2 := hp x2 (by simp)
  have p3 := hp x3 (by simp)
  have p4 := hp x4 (by simp)
  have l4 := hs _ rfl x4 (by simp)
  have i1 := c_is_index_any (n := n - 1) (by omega) x1 (pl_noD p1) h.n
  by_cases q1 : placeB h.n x1 = true
  case neg =>
    rw [Bool.not_eq_true] at q1
    rw [q1] at i1
    refine judge_f (by simp -implicitDefEqProofs [d_shows_crossed, ct, hjl, i1]) fun k => ?_
    obtain ⟨job, i, j, l, rfl, rfl, rfl, rfl, f⟩ := cross_inv k
    rw [placeB_int] at q1
    simp at q1
    exact absurd f.jlt (by omega)
  rw [q1] at i1
  obtain ⟨job, rfl, hj⟩ := placeB_ok q1
  have cp := c_piece_accesses (n := n - 1) (by omega) g hj (by rw [hc.len]; exact hj) (hc.le job) (by have := hc.few job; omega)
  rw [accsL_eq] at cp
  have hx60 := xs_60 g c job
  have hxl : (xsOf h c job).length ≤ 101 := by have := hc.few job; rw [xs_len]; omega
  generalize hxs : xsOf h c job = xs at cp hx60 hxl
  have i3 := c_is_index_any (n := n - 1) (by omega) x3 (pl_noD p3) xs.length
  by_cases q3 : placeB xs.length x3 = true
  case neg =>
    rw [Bool.not_eq_true] at q3
    rw [q3] at i3
    refine judge_f (by simp -implicitDefEqProofs [d_shows_crossed, ct, hjl, i1, cp, i3]) fun k => ?_
    obtain ⟨job', i, j, l, e1, rfl, rfl, rfl, f⟩ := cross_inv k
    have := int_inj e1
    subst this
    rw [placeB_int] at q3
    simp at q3
    have := f.jx
    rw [hxs] at this
    omega
  rw [q3] at i3
  obtain ⟨j, rfl, hjx⟩ := placeB_ok q3
  have i2 := c_is_index_any (n := n - 1) (by omega) x2 (pl_noD p2) j
  by_cases q2 : placeB j x2 = true
  case neg =>
    rw [Bool.not_eq_true] at q2
    rw [q2] at i2
    refine judge_f (by simp -implicitDefEqProofs [d_shows_crossed, ct, hjl, i1, cp, i3, i2]) fun k => ?_
    obtain ⟨job', i, j', l, e1, rfl, e3, rfl, f⟩ := cross_inv k
    have := int_inj e3
    subst this
    rw [placeB_int] at q2
    simp at q2
    have := f.ij
    omega
  rw [q2] at i2
  obtain ⟨i, rfl, hij⟩ := placeB_ok q2
  by_cases isl : ∃ ys, x4 = .list ys
  case neg =>
    obtain ⟨n1, _⟩ := not_list (fun ys e => isl ⟨ys, e⟩) (pl_noD p4)
    refine judge_f (by simp -implicitDefEqProofs [d_shows_crossed, ct, hjl, i1, cp, i3, i2, n1]) fun k => ?_
    obtain ⟨_, _, _, l, _, _, _, e4, _⟩ := cross_inv k
    exact absurd ⟨_, e4⟩ isl
  obtain ⟨ys, rfl⟩ := isl
  have ly : ys.length ≤ 60 := l4
  have isL : isiD [.list] (.list ys) = some (.bool true) := rfl
  by_cases qe : ys = []
  · subst qe
    refine judge_f (by simp -implicitDefEqProofs [d_shows_crossed, ct, hjl, i1, cp, i3, i2, isL]) fun k => ?_
    obtain ⟨_, _, _, l, _, _, _, e4, f⟩ := cross_inv k
    cases l with
    | nil => exact absurd rfl f.ne
    | cons => cases e4
  have qe' : ¬ ((ys.length : Int) = 0) := by
    have := List.length_pos_iff.mpr qe
    omega
  have py := (pl_items p4).2
  simp -implicitDefEqProofs [d_shows_crossed, ct, hjl, i1, cp, i3, i2, isL, qe, qe', Option.bind_assoc]
  have par : ∀ xs : List D, xs = xs.map id := fun xs => by simp
  rw [par ys]
  refine goF_check (Z := fun (o : Option D) => Judge o (CrossV h c (.tuple [.str (Str.ofString "crossed"), .int (job : Int), .int (i : Int), .int (j : Int), .list (ys.map id)]))) (as := ys) (e := id)
    (fun y => [some (encH h), some (cutsD c), some (.tuple [.str (Str.ofString "crossed"), .int (job : Int), .int (i : Int), .int (j : Int), .list (ys.map id)]), some (.str (Str.ofString "crossed")), some (.int (job : Int)), some (.int (i : Int)), some (.int (j : Int)), some (.list (ys.map id)), some (.list (xs.map encW)), y]) (fun y => placeB h.n y && !isJ job y) (.bool false) (fun y hy t => ?_) (fun y hall => ?_) fun hall => ?_
  · have pn := pl_noD (n := 4) (py y hy)
    have i4 := c_is_index_any (n := n - 1) (by omega) y pn h.n
    by_cases q4 : placeB h.n y = true
    · obtain ⟨k, rfl, hk⟩ := placeB_ok q4
      rw [q4] at i4
      by_cases q5 : k = job
      · subst q5
        simp -implicitDefEqProofs [hjl, i4, q4, isJ]
      · have q5' : ¬ (k : Int) = (job : Int) := by omega
        simp -implicitDefEqProofs [hjl, i4, q4, q5', isJ]
    · rw [Bool.not_eq_true] at q4
      rw [q4] at i4
      simp -implicitDefEqProofs [hjl, i4, q4]
  · rw [← par ys] at *
    have hall1 : ys.all (placeB h.n) = true := by
      rw [List.all_eq_true] at hall ⊢
      intro x hx
      exact (Bool.and_eq_true_iff.mp (hall x hx)).1
    obtain ⟨l, rfl, hl⟩ := row_parse hall1
    have hne : ∀ o ∈ l, o ≠ job := fun o ho e => by
      have := List.all_eq_true.mp hall (.int (o : Int)) (List.mem_map.mpr ⟨o, ho, rfl⟩)
      subst e
      simp [isJ] at this
    have lne : l ≠ [] := fun e => qe (by rw [e]; rfl)
    rw [nats_len] at ly
    obtain ⟨m, e1, e2⟩ := lset_nats ly
    have cc := c_is_crossing (n := n - 1) (by omega) g hx60 (i := i) (j := j) (by omega) hjx (.int (job : Int)) hl lne (by omega)
    have cc : Ph (n - 1) (Str.ofString "is_crossing") [encH h, .list (xs.map encW), .int (job : Int), .int (i : Int), .int (j : Int), .list (natsD l)] = _ := cc
    by_cases q6 : m = l.length
    · have nd := e2.mp q6
      have q6' : (m : Int) = (l.length : Int) := by omega
      refine judge_b (b := chB h.adj l && (meet (xs.getD i []) (h.acc (l.getD 0 0)) && meet (h.acc (lastN l)) (xs.getD j []))) (by simp -implicitDefEqProofs [e1, q6, cc, -List.getD_eq_getElem?_getD]) ?_
      rw [Bool.and_eq_true, Bool.and_eq_true]
      constructor
      · rintro ⟨f1, f2, f3⟩
        exact ⟨job, i, j, l, rfl, hj, by rw [hxs]; exact hjx, hij, lne, fun o ho => ⟨hl o ho, hne o ho⟩, nd, f1, by rw [hxs]; exact f2, by rw [hxs]; exact f3⟩
      · intro k
        obtain ⟨job', i', j', l', e1, e2, e3, e4, f⟩ := cross_inv k
        have := int_inj e1; subst this
        have := int_inj e2; subst this
        have := int_inj e3; subst this
        have := row_inj e4; subst this
        have f2 := f.hd
        have f3 := f.la
        rw [hxs] at f2 f3
        exact ⟨f.ch, f2, f3⟩
    · have q6' : ¬ (m : Int) = (l.length : Int) := by omega
      refine judge_f (by simp -implicitDefEqProofs [e1, q6']) fun k => ?_
      obtain ⟨job', i', j', l', _, _, _, e4, f⟩ := cross_inv k
      have := row_inj e4; subst this
      exact absurd (e2.mpr f.nd) q6
  · rw [← par ys] at *
    refine judge_f (by simp) fun k => ?_
    obtain ⟨job', i', j', l, e1, _, _, e4, f⟩ := cross_inv k
    have := int_inj e1; subst this
    injection e4 with e4
    subst e4
    have : (natsD l).all (fun y => placeB h.n y && !isJ job y) = true := by
      rw [List.all_eq_true]
      intro x hx
      obtain ⟨o, ho, rfl⟩ := List.mem_map.mp hx
      obtain ⟨f1, f2⟩ := f.inn o ho
      have f2' : ¬ (o : Int) = (job : Int) := by omega
      simp [placeB_int, f1, f2', isJ]
    rw [this] at hall
    cases hall
end Q
set_option autoImplicit false
set_option linter.all false
set_option maxRecDepth 100000
set_option maxHeartbeats 4000000
namespace Q
open PySem
theorem pl_ok : ∀ (n : Nat) (d : D), plB n d = true → okD n d = true
  | 0, _, h => by cases h
  | n + 1, d, h => by
    cases d with
    | list xs =>
      show xs.all (okD n) = true
      rw [List.all_eq_true]
      exact fun x hx => pl_ok n x ((pl_items h).2 x hx)
    | tuple xs =>
      show xs.all (okD n) = true
      rw [List.all_eq_true]
      exact fun x hx => pl_ok n x ((pl_tups h).2 x hx)
    | dict _ => simp [plB] at h
    | _ => first | rfl | (simp [plB] at h)
theorem pl_ok60 {n : Nat} (hn : n ≤ 60) {d : D} (h : plB n d = true) : okD 60 d = true := okD_le hn (pl_ok n d h)
def isStrB (s : Str) : D → Bool
  | .str x => decide (x = s)
  | _ => false
theorem c_same_str {n : Nat} (hn : 1 ≤ n) (d : D) (hd : noD d = true) (s : Str) : Ph n ("_law_same" : Str) [d, .str s] = some (.bool (isStrB s d)) := by
  rw [run_eq (d := d_law_same) (by kernel_rfl) (by omega) _ rfl]
  cases d with
  | dict _ => cases hd
  | _ => simp -implicitDefEqProofs [d_law_same, isiD, isTy, isNoD, isStrB]
theorem c_law_pieces {n : Nat} (hn : 1 ≤ n) {h : House} {c : List (List Nat)} (g : Good5 h) (hc : Cuts h c) {j : Nat} (hj : j < h.n) : Ph n ("_law_pieces" : Str) [encH h, cutsD c, .int (j : Int)] = some (.list ((pieces (h.body j) (c.getD j [])).map bodyD)) := by
  rw [run_eq (d := d_law_pieces) (by kernel_rfl) (by omega) _ rfl]
  obtain ⟨x, e1, e2⟩ := ix_job h j hj
  have ic := ix_cuts c j (by rw [hc.len]; exact hj)
  have hr := hc.le j
  have hf := hc.few j
  generalize c.getD j [] = r at ic hr hf
  generalize hb : h.body j = b at hr
  have a1 : binD .add (.list [.int 0]) (rowD r) = some (rowD (0 :: r)) := by
    rw [show rowD r = .list (natsD r) from rfl, add_list _ _ (by show _ ≤ 16777216; simp; omega)]
    rfl
  have l1 : biD .len (rowD (0 :: r)) = some (.int ((r.length + 1 : Nat) : Int)) := by simp [rowD]
  have hrg := rng_nat (r.length + 1) (by omega)
  have e3 : fmM (turnE (Ph (n - 1)) [5] (.nm 5) false .non (.slb (.var 3) (.ix (.var 4) (.var 5)) (.ix (.bin .add (.var 4) (.lst (.cons (.bi .len (.var 3)) .nil))) (.bin .add (.var 5) (.int 1)))) [some (encH h), some (cutsD c), some (.int (j : Int)), some (bodyD b), some (rowD (0 :: r)), none]) ((List.range (r.length + 1)).map fun (k : Nat) => PyData.int (k : Int)) = some ((pieces b r).map bodyD) := by
    unfold pieces
    rw [List.map_map]
    refine fmM_all _ fun k hk => ?_
    have hk : k < r.length + 1 := by simpa using hk
    have a2 : binD .add (rowD (0 :: r)) (.list [.int (b.length : Int)]) = some (rowD (placesOf b r)) := by
      rw [show rowD (0 :: r) = .list (natsD (0 :: r)) from rfl, add_list _ _ (by show _ ≤ 16777216; simp only [nats_len, List.length_cons, List.length_nil]; omega), nats_add]
      rfl
    have a3 := rowD_ix (0 :: r) k (by simpa using hk)
    have a4 := rowD_ix (placesOf b r) (k + 1) (by simp [placesOf]; omega)
    have q : (0 :: r).getD k 0 = (placesOf b r).getD k 0 := by
      unfold placesOf
      rw [List.getD_eq_getElem?_getD, List.getD_eq_getElem?_getD, ← List.cons_append, List.getElem?_append_left (by simpa using hk)]
    rw [q] at a3
    rw [Int.natCast_add] at a4
    have a4 : ixD (rowD (placesOf b r)) (.int ((k : Int) + 1)) = some (.int ((placesOf b r).getD (k + 1) 0 : Nat)) := a4
    have cu := cut_nat (b.map encS) ((placesOf b r).getD k 0) ((placesOf b r).getD (k + 1) 0) (by simpa using places_le hr k) (by simpa using places_le hr (k + 1))
    rw [← List.map_drop, ← List.map_take] at cu
    have cu : slD (some (((placesOf b r).getD k 0 : Nat) : Int)) (some (((placesOf b r).getD (k + 1) 0 : Nat) : Int)) (bodyD b) = some (bodyD (piece b r k)) := cu
    generalize hp : piece b r k = p at cu
    generalize (placesOf b r).getD k 0 = u at a3 cu
    generalize (placesOf b r).getD (k + 1) 0 = w at a4 cu
    simp -implicitDefEqProofs [turnE, a2, a3, a4, cu, hp]
  rw [Int.natCast_add] at l1 hrg
  have l1 : biD .len (rowD (0 :: r)) = some (.int ((r.length : Int) + 1)) := l1
  have hrg : rngD 0 ((r.length : Int) + 1) = _ := hrg
  simp -implicitDefEqProofs [d_law_pieces, e1, e2, hb, ic, a1, l1, hrg, e3]
def dstB (n job : Nat) : List Nat → List D → Bool
  | _, [] => true
  | pre, x :: r => placeB n x && !isJ job x && (match x with
    | .int i => !pre.contains i.toNat && dstB n job (pre ++ [i.toNat]) r
    | _ => false)
theorem dstB_int (n job : Nat) (pre : List Nat) (k : Nat) (r : List D) : dstB n job pre (.int (k : Int) :: r) = (decide (k < n) && !decide (k = job) && (!pre.contains k && dstB n job (pre ++ [k]) r)) := by
  have e : isJ job (.int (k : Int)) = decide (k = job) := by
    unfold isJ
    rw [decide_eq_decide]
    omega
  show (placeB n (.int (k : Int)) && !isJ job (.int (k : Int)) && _) = _
  rw [placeB_int, e]
  simp
theorem dstB_place {n job : Nat} {pre : List Nat} {x : D} {r : List D} (h : placeB n x = false) : dstB n job pre (x :: r) = false := by
  show (placeB n x && _ && _) = false
  rw [h]; rfl
theorem dstB_iff (n job : Nat) : ∀ (xs : List D) (pre : List Nat), dstB n job pre xs = true ↔ ∃ l : List Nat, xs = natsD l ∧ (∀ o ∈ l, o < n ∧ o ≠ job) ∧ l.Nodup ∧ ∀ o ∈ l, o ∉ pre := by
  intro xs
  induction xs with
  | nil => exact fun pre => ⟨fun _ => ⟨[], rfl, by simp, by simp, by simp⟩, fun _ => rfl⟩
  | cons x r ih =>
    intro pre
    constructor
    · intro h
      by_cases q : placeB n x = true
      · obtain ⟨k, rfl, hk⟩ := placeB_ok q
        rw [dstB_int] at h
        simp only [Bool.and_eq_true, Bool.not_eq_true', decide_eq_true_eq, decide_eq_false_iff_not] at h
        obtain ⟨⟨h1, h2⟩, h3, h4⟩ := h
        obtain ⟨l, rfl, i1, i2, i3⟩ := (ih (pre ++ [k])).mp h4
        refine ⟨k :: l, rfl, ?_, ?_, ?_⟩
        · intro o ho
          rcases List.mem_cons.mp ho with e | e
          · rw [e]; exact ⟨h1, h2⟩
          · exact i1 o e
        · exact List.nodup_cons.mpr ⟨fun z => i3 k z (by simp), i2⟩
        · intro o ho
          rcases List.mem_cons.mp ho with e | e
          · rw [e]; simpa using h3
          · exact fun z => i3 o e (by simp [z])
      · rw [Bool.not_eq_true] at q
        rw [dstB_place q] at h
        cases h
    · rintro ⟨l, e, h1, h2, h3⟩
      cases l with
      | nil => cases e
      | cons k l =>
        injection e with e1 e2
        subst e1 e2
        show dstB n job pre (.int (k : Int) :: natsD l) = true
        rw [dstB_int]
        obtain ⟨n1, n2⟩ := List.nodup_cons.mp h2
        have ih := (ih (pre ++ [k])).mpr ⟨l, rfl, fun o ho => h1 o (by simp [ho]), n2, fun o ho z => by
          rcases List.mem_append.mp z with q | q
          · exact h3 o (by simp [ho]) q
          · rw [List.mem_singleton.mp q] at ho; exact n1 ho⟩
        have a := h1 k (by simp)
        have b := h3 k (by simp)
        have ih : dstB n job (pre ++ [k]) (natsD l) = true := ih
        rw [ih]
        simp [a.1, a.2, b]
def chG {α : Type} (r : α → α → Bool) : List α → Bool
  | a :: b :: l => r a b && chG r (b :: l)
  | _ => true
theorem chG_all {α : Type} (r : α → α → Bool) (z : α) : ∀ l : List α, chG r l = (List.range (l.length - 1)).all fun k => r (l.getD k z) (l.getD (k + 1) z)
  | [] => rfl
  | [a] => rfl
  | a :: b :: l => by
    have ih := chG_all r z (b :: l)
    show (r a b && chG r (b :: l)) = _
    rw [ih]
    simp only [List.length_cons, Nat.add_sub_cancel]
    rw [List.range_succ_eq_map, List.all_cons, List.all_map]
    congr 1
theorem chG_ends (h : House) (y : List Acc) : ∀ (l : List Nat) (x : List Acc), l ≠ [] → chG meet (x :: (l.map h.acc ++ [y])) = (meet x (h.acc (l.getD 0 0)) && (chB h.adj l && meet (h.acc (lastN l)) y))
  | [], _, ne => absurd rfl ne
  | [a], x, _ => by simp [chG, chB, lastN]
  | a :: b :: l, x, _ => by
    have ih := chG_ends h y (b :: l) (h.acc a) (by simp)
    have e : lastN (a :: b :: l) = lastN (b :: l) := by simp [lastN]
    rw [e]
    show (meet x (h.acc a) && chG meet (h.acc a :: ((b :: l).map h.acc ++ [y]))) = _
    rw [ih]
    show _ = (meet x (h.acc a) && (h.adj a b && chB h.adj (b :: l) && meet (h.acc (lastN (b :: l))) y))
    rw [Bool.and_assoc]
    rfl
end Q
set_option autoImplicit false
set_option linter.all false
set_option maxRecDepth 100000
set_option maxHeartbeats 4000000
namespace Q
open PySem
def lcEnv (h : House) (c : List (List Nat)) (v : D) (job i j : Nat) (ys : List D) (ps : List (List St)) (a b d e : Option D) : Env := [some (encH h), some (cutsD c), some v, some (.int (h.n : Int)), some (.int (job : Int)), some (.int (i : Int)), some (.int (j : Int)), some (.list ys), some (.list (ps.map bodyD)), a, b, d, e]
def lcI (h : House) (c : List (List Nat)) (v : D) (job i j : Nat) (ys : List D) (ps : List (List St)) (rest : List Nat) (ρ : Env) : Prop := ∃ (k : Nat) (pre : List Nat) (a b d e : Option D), rest = List.range' k (ys.length - k) ∧ k ≤ ys.length ∧ ys.take k = natsD pre ∧ dstB h.n job pre (ys.drop k) = dstB h.n job [] ys ∧ ρ = lcEnv h c v job i j ys ps a b d e
theorem acc_items {n : Nat} (hn : 3 ≤ n) {h : House} (g : Good5 h) {bs : List (List St)} (hb : ∀ b ∈ bs, (∀ s ∈ b, okS h.m s) ∧ b.length ≤ 60) (ρ : Env) (hρ : ρ.length = 13) (h0 : ρ[0]? = some (some (encH h))) : fmM (turnE (Ph n) [11] (.nm 11) false .non (.call .frz "_law_accesses" (.cons (.var 0) (.cons (.var 11) .nil))) ρ) (bs.map bodyD) = some (bs.map fun b => encW (accs b)) := by
  refine fmM_all _ fun b hb2 => ?_
  obtain ⟨h1, h2⟩ := hb b hb2
  have c := c_law_accesses (n := n) hn g.m h1 h2
  match ρ, hρ with
  | [a0, a1, a2, a3, a4, a5, a6, a7, a8, a9, a10, a11, a12], _ =>
    have h0 : a0 = some (encH h) := by simpa using h0
    subst h0
    simp -implicitDefEqProofs [turnE, c]
theorem c_law_is_crossed {n : Nat} (hn : 6 ≤ n) {h : House} (g : Good5 h) {c : List (List Nat)} (hc : Cuts h c) (v : D) (hv : plB 7 v = true) : Judge (Ph n ("_law_is_crossed" : Str) [encH h, cutsD c, v]) (CrossV h c v) := by
  rw [run_eq (d := d_law_is_crossed) (by kernel_rfl) (by omega) _ rfl]
  have hjl : h.jobs.length = h.n := rfl
  have hn5 := g.n
  by_cases ist : ∃ ds, v = .tuple ds
  case neg =>
    refine judge_f ?_ fun k => ?_
    · have : isiD [.tuple] v = some (.bool false) := by
        cases v with
        | tuple ds => exact absurd ⟨ds, rfl⟩ ist
        | dict _ => simp [plB] at hv
        | _ => rfl
      simp -implicitDefEqProofs [d_law_is_crossed, hjl, this]
    · obtain ⟨_, _, _, _, e, _⟩ := k
      exact ist ⟨_, e⟩
  obtain ⟨ds, rfl⟩ := ist
  have isT : isiD [.tuple] (.tuple ds) = some (.bool true) := rfl
  by_cases q5 : ds.length = 5
  case neg =>
    have q5' : ¬ (ds.length : Int) = 5 := by omega
    refine judge_f (by simp -implicitDefEqProofs [d_law_is_crossed, hjl, isT, q5']) fun k => ?_
    obtain ⟨_, _, _, _, e, _⟩ := k
    injection e with e
    rw [e] at q5
    exact q5 rfl
  obtain ⟨t, x1, x2, x3, x4, rfl⟩ : ∃ t x1 x2 x3 x4, ds = [t, x1, x2, x3, x4] := by
    match ds, q5 with
    | [t, a, b, c, d], _ => exact ⟨t, a, b, c, d, rfl⟩
  have hp := (pl_tups hv).2
  have pt := hp t (by simp)
  have p1 := hp x1 (by simp)
  have p2 := hp x2 (by simp)
  have p3 := hp x3 (by simp)
  have p4 := hp x4 (by simp)
  have st := c_same_str (n := n - 1) (by omega) t (pl_noD pt) (Str.ofString "crossed")
  by_cases q0 : isStrB (Str.ofString "crossed") t = true
  case neg =>
    rw [Bool.not_eq_true] at q0
    rw [q0] at st
    refine judge_f (by simp -implicitDefEqProofs [d_law_is_crossed, hjl, isT, st]) fun k => ?_
    obtain ⟨_, _, _, _, e, _⟩ := k
    injection e with e
    injection e with e1 _
    rw [e1] at q0
    simp [isStrB] at q0
  rw [q0] at st
  have i1 := c_law_is_place (n := n - 1) (by omega) x1 (pl_noD p1) h.n
  by_cases q1 : placeB h.n x1 = true
  case neg =>
    rw [Bool.not_eq_true] at q1
    rw [q1] at i1
    refine judge_f (by simp -implicitDefEqProofs [d_law_is_crossed, hjl, isT, st, i1]) fun k => ?_
    obtain ⟨job, i, j, l, rfl, rfl, rfl, rfl, f⟩ := cross_inv k
    rw [placeB_int] at q1
    simp at q1
    exact absurd f.jlt (by omega)
  rw [q1] at i1
  obtain ⟨job, rfl, hj⟩ := placeB_ok q1
  have s1 : slD (some 1) none (.tuple [t, .int (job : Int), x2, x3, x4]) = some (.tuple [.int (job : Int), x2, x3, x4]) := rfl
  have cp := c_law_pieces (n := n - 1) (by omega) g hc hj
  have hps : ∀ p ∈ pieces (h.body job) (c.getD job []), (∀ s ∈ p, okS h.m s) ∧ p.length ≤ 60 := by
    intro p hp
    unfold pieces at hp
    obtain ⟨k, _, rfl⟩ := List.mem_map.mp hp
    exact ⟨fun s hs => g.ok job s (piece_sub hs), Nat.le_trans (piece_len _ _ _) (g.len job)⟩
  have hpl : (pieces (h.body job) (c.getD job [])).length ≤ 101 := by have := hc.few job; simp [pieces]; simpa using this
  have hxs : xsOf h c job = (pieces (h.body job) (c.getD job [])).map accs := rfl
  generalize pieces (h.body job) (c.getD job []) = ps at cp hps hpl hxs
  have i3 := c_law_is_place (n := n - 1) (by omega) x3 (pl_noD p3) ps.length
  by_cases q3 : placeB ps.length x3 = true
  case neg =>
    rw [Bool.not_eq_true] at q3
    rw [q3] at i3
    refine judge_f (by simp -implicitDefEqProofs [d_law_is_crossed, hjl, isT, st, i1, s1, cp, i3]) fun k => ?_
    obtain ⟨job', i, j, l, e1, rfl, rfl, rfl, f⟩ := cross_inv k
    have := int_inj e1
    subst this
    rw [placeB_int] at q3
    simp at q3
    have := f.jx
    rw [hxs] at this
    simp at this
    omega
  rw [q3] at i3
  obtain ⟨j, rfl, hjx⟩ := placeB_ok q3
  have i2 := c_law_is_place (n := n - 1) (by omega) x2 (pl_noD p2) j
  by_cases q2 : placeB j x2 = true
  case neg =>
    rw [Bool.not_eq_true] at q2
    rw [q2] at i2
    refine judge_f (by simp -implicitDefEqProofs [d_law_is_crossed, hjl, isT, st, i1, s1, cp, i3, i2]) fun k => ?_
    obtain ⟨job', i, j', l, e1, rfl, e3, rfl, f⟩ := cross_inv k
    have := int_inj e3
    subst this
    rw [placeB_int] at q2
    simp at q2
    have := f.ij
    omega
  rw [q2] at i2
  obtain ⟨i, rfl, hij⟩ := placeB_ok q2
  by_cases isl : ∃ ys, x4 = .list ys
  case neg =>
    obtain ⟨n1, _⟩ := not_list (fun ys e => isl ⟨ys, e⟩) (pl_noD p4)
    refine judge_f (by simp -implicitDefEqProofs [d_law_is_crossed, hjl, isT, st, i1, s1, cp, i3, i2, n1]) fun k => ?_
    obtain ⟨_, _, _, l, _, _, _, e4, _⟩ := cross_inv k
    exact absurd ⟨_, e4⟩ isl
  obtain ⟨ys, rfl⟩ := isl
  have isL : isiD [.list] (.list ys) = some (.bool true) := rfl
  have ne := ne_nil (pl_ok60 (by omega) p4)
  obtain ⟨ly, py⟩ := pl_items p4
  by_cases qe : ys = []
  · subst qe
    refine judge_f (by simp -implicitDefEqProofs [d_law_is_crossed, hjl, isT, st, i1, s1, cp, i3, i2, isL]) fun k => ?_
    obtain ⟨_, _, _, l, _, _, _, e4, f⟩ := cross_inv k
    cases l with
    | nil => exact absurd rfl f.ne
    | cons => cases e4
  have nec : eqD (.list ys) (.list []) = some false := by
    rw [ne]
    cases ys with
    | nil => exact absurd rfl qe
    | cons => rfl
  have key : dstB h.n job [] ys = true ↔ ∃ l : List Nat, ys = natsD l ∧ (∀ o ∈ l, o < h.n ∧ o ≠ job) ∧ l.Nodup := by
    rw [dstB_iff]
    constructor
    · rintro ⟨l, h1, h2, h3, _⟩; exact ⟨l, h1, h2, h3⟩
    · rintro ⟨l, h1, h2, h3⟩; exact ⟨l, h1, h2, h3, by simp⟩
  have no : dstB h.n job [] ys = false → ¬ CrossV h c (.tuple [t, .int (job : Int), .int (i : Int), .int (j : Int), .list ys]) := by
    intro q k
    obtain ⟨job', i', j', l, e1, _, _, e4, f⟩ := cross_inv k
    have := int_inj e1; subst this
    injection e4 with e4
    rw [key.mpr ⟨l, e4, f.inn, f.nd⟩] at q
    cases q
  simp -implicitDefEqProofs [d_law_is_crossed, hjl, isT, st, i1, s1, cp, i3, i2, isL, nec, rng_nat ys.length (by omega), Option.bind_assoc]
  refine goF_map (Z := fun (o : Option D) => Judge o (CrossV h c (.tuple [t, .int (job : Int), .int (i : Int), .int (j : Int), .list ys]))) (as := List.range ys.length) (e := fun (k : Nat) => PyData.int (k : Int)) (lcI h c (.tuple [t, .int (job : Int), .int (i : Int), .int (j : Int), .list ys]) job i j ys ps)
    ⟨0, [], none, none, none, none, by rw [List.range_eq_range']; rfl, by omega, rfl, rfl, rfl⟩ (fun ρ ⟨k, pre, a, b, d, e, h1, h2, h3, h5, eρ⟩ => ?_) fun k' rest ρ ⟨k, pre, a, b, d, e, h1, h2, h3, h5, eρ⟩ => ?_
  · subst eρ
    have hk : ys.length - k = 0 := by
      have := congrArg List.length h1
      simpa using this.symm
    have : ys.drop k = [] := by rw [List.drop_eq_nil_iff]; omega
    rw [this] at h5
    have h5 : dstB h.n job [] ys = true := h5.symm
    obtain ⟨l, rfl, l1, l2⟩ := key.mp h5
    have lne : l ≠ [] := fun e => qe (by rw [e]; rfl)
    have bi : ∀ k, k < ps.length → atD (ps.map bodyD) (k : Int) = some (bodyD (ps.getD k [])) := fun k hk => by
      rw [atD_nat, List.getElem?_map, List.getElem?_eq_getElem hk, List.getD_eq_getElem?_getD, List.getElem?_eq_getElem hk]; rfl
    have hpm : ∀ k, k < ps.length → ps.getD k [] ∈ ps := fun k hk => by
      rw [List.getD_eq_getElem?_getD, List.getElem?_eq_getElem hk]; exact List.getElem_mem hk
    have b1 := bi i (by omega)
    have b2 := bi j hjx
    have hm1 := hps _ (hpm i (by omega))
    have hm2 := hps _ (hpm j hjx)
    have hx1 : (xsOf h c job).getD i [] = accs (ps.getD i []) := by
      rw [hxs, List.getD_eq_getElem?_getD, List.getElem?_map, List.getD_eq_getElem?_getD, List.getElem?_eq_getElem (show i < ps.length by omega)]; rfl
    have hx2 : (xsOf h c job).getD j [] = accs (ps.getD j []) := by
      rw [hxs, List.getD_eq_getElem?_getD, List.getElem?_map, List.getD_eq_getElem?_getD, List.getElem?_eq_getElem hjx]; rfl
    generalize ps.getD i [] = pi at b1 hm1 hx1
    generalize ps.getD j [] = pj at b2 hm2 hx2
    have e1 : fmM (turnE (Ph (n - 1)) [12] (.nm 12) false .non (.ix (.ix (.ix (.var 0) (.int 1)) (.var 12)) (.int 2)) (lcEnv h c (.tuple [t, .int (job : Int), .int (i : Int), .int (j : Int), .list (natsD l)]) job i j (natsD l) ps a b d e)) (natsD l) = some ((l.map h.body).map bodyD) := by
      rw [List.map_map]
      refine fmM_all (e := fun (k : Nat) => PyData.int (k : Int)) _ fun o ho => ?_
      obtain ⟨x, y1, y2⟩ := ix_job h o (l1 o ho).1
      simp -implicitDefEqProofs [turnE, lcEnv, y1, y2]
    have ll : l.length ≤ 1000 := by simpa using ly
    have a1 : binD .add (.list [bodyD pi]) (.list ((l.map h.body).map bodyD)) = some (.list ((pi :: l.map h.body).map bodyD)) := by
      rw [add_list _ _ (by show _ ≤ 16777216; simp; omega)]; rfl
    have a2 : binD .add (.list ((pi :: l.map h.body).map bodyD)) (.list [bodyD pj]) = some (.list ((pi :: l.map h.body ++ [pj]).map bodyD)) := by
      rw [add_list _ _ (by show _ ≤ 16777216; simp; omega)]; simp
    have e2 := acc_items (n := n - 1) (by omega) g (bs := pi :: l.map h.body ++ [pj]) (fun b hb => by
      rcases List.mem_append.mp hb with q | q
      · rcases List.mem_cons.mp q with q | q
        · rw [q]; exact hm1
        · obtain ⟨o, _, rfl⟩ := List.mem_map.mp q
          exact ⟨g.ok o, g.len o⟩
      · rw [List.mem_singleton.mp q]; exact hm2) (lcEnv h c (.tuple [t, .int (job : Int), .int (i : Int), .int (j : Int), .list (natsD l)]) job i j (natsD l) ps a b d e) rfl rfl
    have ets : (pi :: l.map h.body ++ [pj]).map (fun b => encW (accs b)) = (accs pi :: (l.map h.acc ++ [accs pj])).map encW := by
      simp
      intro _ _; rfl
    rw [ets] at e2
    have key2 := chG_ends h (accs pj) l (accs pi) lne
    have lts : (accs pi :: (l.map h.acc ++ [accs pj])).length = l.length + 2 := by simp
    generalize hts : accs pi :: (l.map h.acc ++ [accs pj]) = ts at e2 key2 lts
    generalize (pi :: l.map h.body ++ [pj]) = bodies at a2 e2
    have lT : biD .len (.list (ts.map encW)) = some (.int ((l.length : Int) + 2)) := by simp [lts]
    have hrg : rngD 0 ((l.length : Int) + 2 - 1) = some ((List.range (l.length + 1)).map fun k => PyData.int (k : Nat)) := by
      have := rng_nat (l.length + 1) (by omega)
      rw [Int.natCast_add] at this
      rw [show (l.length : Int) + 2 - 1 = (l.length : Int) + ((1 : Nat) : Int) by omega]
      exact this
    have e3 : fmM (turnE (Ph (n - 1)) [9] (.nm 9) true (.not (.call .frz "_law_meet" (.cons (.ix (.var 10) (.var 9)) (.cons (.ix (.var 10) (.bin .add (.var 9) (.int 1))) .nil)))) (.var 9) (lcEnv h c (.tuple [t, .int (job : Int), .int (i : Int), .int (j : Int), .list (natsD l)]) job i j (natsD l) ps a (some (.list (ts.map encW))) d e)) ((List.range (l.length + 1)).map fun k => PyData.int (k : Nat)) = some (natsD ((List.range (l.length + 1)).filter fun k => !meet (ts.getD k []) (ts.getD (k + 1) []))) := by
      rw [← fm_row]
      refine fmM_map _ fun k hk => ?_
      have hk : k < l.length + 1 := by simpa using hk
      have z1 := at_accs ts k (by omega)
      have z2 := at_accs ts (k + 1) (by omega)
      rw [Int.natCast_add] at z2
      have z2 : atD (ts.map encW) ((k : Int) + 1) = some (encW (ts.getD (k + 1) [])) := z2
      have cm := c_law_meet (n := n - 1) (by omega) (ts.getD k []) (ts.getD (k + 1) [])
      generalize ts.getD k [] = u at z1 cm ⊢
      generalize ts.getD (k + 1) [] = w at z2 cm ⊢
      cases q : meet u w <;> simp -implicitDefEqProofs [turnE, lcEnv, z1, z2, cm, q]
    have ne2 := ne_nil (okD_nats ((List.range (l.length + 1)).filter fun k => !meet (ts.getD k []) (ts.getD (k + 1) [])))
    rw [any_empty] at ne2
    have ca : (!(List.range (l.length + 1)).any fun k => !meet (ts.getD k []) (ts.getD (k + 1) [])) = chG meet ts := by
      rw [chG_all meet [] ts, lts, Bool.eq_iff_iff]
      simp
    rw [ca] at ne2
    generalize (List.range (l.length + 1)).filter (fun k => !meet (ts.getD k []) (ts.getD (k + 1) [])) = bad at e3 ne2
    unfold lcEnv at e1 e2 e3
    have it1 : itemsD (.list (natsD l)) = some (natsD l) := rfl
    simp -implicitDefEqProofs only [List.map_map] at e1 a1
    refine judge_b (b := chG meet ts) (by simp -implicitDefEqProofs [lcEnv, e1, b1, b2, a1, a2, e2, lT, hrg, e3, ne2, -List.map_map, -List.map_cons, -List.map_append]) ?_
    rw [key2, Bool.and_eq_true, Bool.and_eq_true]
    constructor
    · rintro ⟨f2, f1, f3⟩
      have et : t = .str (Str.ofString "crossed") := by
        cases t with
        | str s => simp [isStrB] at q0; rw [q0]
        | _ => cases q0
      exact ⟨job, i, j, l, by rw [et]; rfl, hj, by rw [hxs]; simpa using hjx, hij, lne, l1, l2, f1, by rw [hx1]; exact f2, by rw [hx2]; exact f3⟩
    · intro k
      obtain ⟨job', i', j', l', e1, e2, e3, e4, f⟩ := cross_inv k
      have := int_inj e1; subst this
      have := int_inj e2; subst this
      have := int_inj e3; subst this
      have := row_inj e4; subst this
      have f2 := f.hd
      have f3 := f.la
      rw [hx1] at f2
      rw [hx2] at f3
      exact ⟨f2, f.ch, f3⟩
  · subst eρ
    have hk : k < ys.length := by
      have := congrArg List.length h1
      simp at this
      omega
    rw [show ys.length - k = (ys.length - (k + 1)) + 1 by omega, List.range'_succ] at h1
    obtain ⟨rfl, h1⟩ := List.cons.inj h1
    have ax : atD ys (k' : Int) = some ys[k'] := by rw [atD_nat, List.getElem?_eq_getElem hk]
    rw [List.drop_eq_getElem_cons hk] at h5
    have hnx := pl_noD (n := 4) (py _ (List.getElem_mem hk))
    have cu := cut_any ys k'
    rw [h3] at cu
    have tk : ys.take (k' + 1) = natsD pre ++ [ys[k']] := by rw [← h3, List.take_succ_eq_append_getElem hk]
    generalize ys[k'] = w at ax h5 hnx tk
    have pl := c_law_is_place (n := n - 1) (by omega) w hnx h.n
    by_cases q4 : placeB h.n w = true
    · rw [q4] at pl
      obtain ⟨o, rfl, ho⟩ := placeB_ok q4
      rw [dstB_int] at h5
      by_cases q6 : o = job
      · subst q6
        have h5 : dstB h.n o [] ys = false := by rw [← h5]; simp
        simp -implicitDefEqProofs [lcEnv, ax, pl]
        exact judge_f rfl (no h5)
      · have q6' : ¬ (o : Int) = (job : Int) := by omega
        have inn := in_nats o pre
        by_cases q7 : o ∈ pre
        · have h5 : dstB h.n job [] ys = false := by rw [← h5]; simp [q7]
          simp -implicitDefEqProofs [lcEnv, ax, pl, q6', cu, inn, q7]
          exact judge_f rfl (no h5)
        · simp -implicitDefEqProofs [lcEnv, ax, pl, q6', cu, inn, q7]
          refine ⟨k' + 1, pre ++ [o], _, _, _, _, by rw [h1], by omega, by rw [tk, nats_add], ?_, rfl⟩
          rw [← h5]
          simp [ho, q6, q7]
    · rw [Bool.not_eq_true] at q4
      rw [q4] at pl
      rw [dstB_place q4] at h5
      simp -implicitDefEqProofs [lcEnv, ax, pl]
      exact judge_f rfl (no h5.symm)
end Q
set_option autoImplicit false
set_option linter.all false
set_option maxRecDepth 100000
set_option maxHeartbeats 4000000
namespace Q
open PySem
theorem chk_iff (n : Nat) : ∀ (xs : List D) (m : Int), -1 ≤ m → (chk n m xs = true ↔ ∃ l : List Nat, xs = natsD l ∧ l.Pairwise (· < ·) ∧ ∀ o ∈ l, o < n ∧ m < (o : Int)) := by
  intro xs
  induction xs with
  | nil => exact fun m _ => ⟨fun _ => ⟨[], rfl, by simp, by simp⟩, fun _ => rfl⟩
  | cons x r ih =>
    intro m hm
    constructor
    · intro h
      cases x with
      | int i =>
        unfold chk at h
        simp only [Bool.and_eq_true, decide_eq_true_eq] at h
        obtain ⟨⟨⟨h1, h2⟩, h3⟩, h4⟩ := h
        obtain ⟨l, rfl, l1, l2⟩ := (ih i (by omega)).mp h4
        refine ⟨i.toNat :: l, ?_, ?_, ?_⟩
        · show PyData.int i :: natsD l = PyData.int ((i.toNat : Nat) : Int) :: natsD l
          rw [show ((i.toNat : Nat) : Int) = i by omega]
        · exact List.pairwise_cons.mpr ⟨fun o ho => by have := (l2 o ho).2; omega, l1⟩
        · intro o ho
          rcases List.mem_cons.mp ho with e | e
          · subst e; exact ⟨by omega, by omega⟩
          · have := l2 o e; exact ⟨this.1, by omega⟩
      | _ => cases h
    · rintro ⟨l, e, l1, l2⟩
      cases l with
      | nil => cases e
      | cons k l =>
        injection e with e1 e2
        subst e1 e2
        obtain ⟨p1, p2⟩ := List.pairwise_cons.mp l1
        have ih := (ih (k : Int) (by omega)).mpr ⟨l, rfl, p2, fun o ho => ⟨(l2 o (by simp [ho])).1, by have := p1 o ho; omega⟩⟩
        have q := l2 k (by simp)
        show (decide (0 ≤ (k : Int)) && decide ((k : Int) < (n : Int)) && decide (m < (k : Int)) && chk n (k : Int) (natsD l)) = true
        have ih : chk n (k : Int) (natsD l) = true := ih
        rw [ih]
        simp [q.1, q.2]
def IdxV (n : Nat) (d : D) : Prop := ∃ l : List Nat, d = rowD l ∧ l.Pairwise (· < ·) ∧ ∀ o ∈ l, o < n
theorem c_is_indexes_any {n : Nat} (hn : 3 ≤ n) (d : D) (hd : plB 5 d = true) (s : Nat) : Judge (Ph n ("is_indexes" : Str) [d, .int (s : Int)]) (IdxV s d) := by
  rw [run_eq (d := d_is_indexes) (by kernel_rfl) (by omega) _ rfl]
  by_cases isl : ∃ ys, d = .list ys
  case neg =>
    obtain ⟨n1, _⟩ := not_list (fun ys e => isl ⟨ys, e⟩) (pl_noD hd)
    refine judge_f (by simp -implicitDefEqProofs [d_is_indexes, n1]) ?_
    rintro ⟨l, e, _⟩
    exact isl ⟨_, e⟩
  obtain ⟨ys, rfl⟩ := isl
  have isL : isiD [.list] (.list ys) = some (.bool true) := rfl
  obtain ⟨_, py⟩ := pl_items hd
  have key : chk s (-1) ys = true ↔ IdxV s (.list ys) := by
    rw [chk_iff s ys (-1) (by omega)]
    constructor
    · rintro ⟨l, rfl, h1, h2⟩; exact ⟨l, rfl, h1, fun o ho => (h2 o ho).1⟩
    · rintro ⟨l, e, h1, h2⟩
      injection e with e
      exact ⟨l, e, h1, fun o ho => ⟨h2 o ho, by omega⟩⟩
  have no : chk s (-1) ys = false → ¬ IdxV s (.list ys) := fun q k => by rw [key.mpr k] at q; cases q
  simp -implicitDefEqProofs [d_is_indexes, isL, Option.bind_assoc]
  refine goF_use (Z := fun (o : Option D) => Judge o (IdxV s (.list ys))) (fun rest ρ => ∃ (m : Int) (t : Option D), ρ = [some (.list ys), some (.int (s : Int)), some (.int m), t] ∧ -1 ≤ m ∧ chk s m rest = chk s (-1) ys ∧ ∀ x ∈ rest, noD x = true) ⟨-1, none, rfl, by omega, rfl, fun x hx => pl_noD (n := 3) (py x hx)⟩ ?_ ?_
  · rintro ρ ⟨m, t, rfl, hm, h1, _⟩
    refine judge_b (b := true) (by simp) ?_
    rw [← key, ← h1]
    exact ⟨fun _ => rfl, fun _ => rfl⟩
  · rintro x rest ρ ⟨m, t, rfl, hm, h1, hx⟩
    have ci := c_is_index_any (n := n - 1) (by omega) x (hx x (by simp)) s
    cases x with
    | int i =>
      by_cases q : placeB s (.int i) = true
      · rw [q] at ci
        obtain ⟨k, e, hk⟩ := placeB_ok q
        injection e with e
        subst e
        by_cases q2 : (k : Int) ≤ m
        · have h1 : chk s (-1) ys = false := by
            rw [← h1]
            have : ¬ m < (k : Int) := by omega
            simp [chk, this]
          simp -implicitDefEqProofs [ci, q2]
          exact judge_f (by simp) (no h1)
        · simp -implicitDefEqProofs [ci, q2]
          refine ⟨?_, fun y hy => hx y (by simp [hy])⟩
          rw [← h1]
          have : m < (k : Int) := by omega
          simp [chk, this, hk]
      · rw [Bool.not_eq_true] at q
        rw [q] at ci
        have h1 : chk s (-1) ys = false := by
          rw [← h1]
          simp [placeB] at q
          by_cases q3 : 0 ≤ i
          · have : ¬ i < (s : Int) := by have := q q3; omega
            simp [chk, this]
          · simp [chk, q3]
        simp -implicitDefEqProofs [ci]
        exact judge_f (by simp) (no h1)
    | dict _ => have := hx _ (List.mem_cons_self ..); cases this
    | _ =>
      have h1 : chk s (-1) ys = false := h1.symm
      have ci : Ph (n - 1) (Str.ofString "is_index") [_, .int (s : Int)] = some (.bool false) := ci
      simp -implicitDefEqProofs [ci]
      exact judge_f (by simp) (no h1)
theorem rows_inj : ∀ {a b : List (List Nat)}, a.map rowD = b.map rowD → a = b
  | [], [], _ => rfl
  | [], _ :: _, h => by cases h
  | _ :: _, [], h => by cases h
  | x :: a, y :: b, h => by
    injection h with h1 h2
    rw [rows_inj h2, row_inj h1]
theorem eqv_rowsAll : ∀ x y : List (List Nat), PyData.eqvAll (x.map rowD) (y.map rowD) = decide (x = y) := by
  intro x
  induction x with
  | nil => intro y; cases y <;> simp [PyData.eqvAll]
  | cons a x ih =>
    intro y
    cases y with
    | nil => simp [PyData.eqvAll]
    | cons b y =>
      simp only [List.map_cons, PyData.eqvAll, ih y, eqv_rows]
      rw [Bool.eq_iff_iff]
      simp
theorem eq_rows (x y : List (List Nat)) : eqD (.list (x.map rowD)) (.list (y.map rowD)) = some (decide (x = y)) := by
  rw [eqD_ok (okD_rows x) (okD_rows y)]
  show some (PyData.eqv _ _) = _
  rw [← eqv_rowsAll]
  simp only [PyData.eqv]
theorem eq_row (x y : List Nat) : eqD (.list (natsD x)) (.list (natsD y)) = some (decide (x = y)) := by
  rw [eqD_ok (okD_nats x) (okD_nats y)]
  exact congrArg some (eqv_rows x y)
theorem asc_few {n : Nat} {l : List Nat} (h1 : l.Pairwise (· < ·)) (h2 : ∀ o ∈ l, o < n) : l.length ≤ n := by
  have := L2.nat_nodup_len l (List.range n) (h1.imp fun h => Nat.ne_of_lt h) fun o ho => List.mem_range.mpr (h2 o ho)
  simpa using this
theorem flat_len {ps : List (List Nat)} {M : Nat} (h : ∀ l ∈ ps, l.length ≤ M) : ps.flatten.length ≤ ps.length * M := by
  induction ps with
  | nil => simp
  | cons a ps ih =>
    have := ih fun l hl => h l (by simp [hl])
    have := h a (by simp)
    rw [List.flatten_cons, List.length_append, List.length_cons, Nat.succ_mul]
    omega
theorem ne_len {ps : List (List Nat)} (h : ∀ l ∈ ps, l ≠ []) : ps.length ≤ ps.flatten.length := by
  induction ps with
  | nil => simp
  | cons a ps ih =>
    have := ih fun l hl => h l (by simp [hl])
    have := List.length_pos_iff.mpr (h a (by simp))
    rw [List.flatten_cons, List.length_append, List.length_cons]
    omega
def PartV (n j : Nat) (d : D) : Prop := ∃ ps : List (List Nat), d = .list (ps.map rowD) ∧ PartOk n j ps
theorem c_is_parting_any {n : Nat} (hn : 4 ≤ n) {h : House} (g : Good5 h) {j : Nat} (d : D) (hd : plB 6 d = true) : Judge (Ph n ("is_parting" : Str) [encH h, .int (j : Int), d]) (PartV h.n j d) := by
  rw [run_eq (d := d_is_parting) (by kernel_rfl) (by omega) _ rfl]
  have hjl : h.jobs.length = h.n := rfl
  have hn5 := g.n
  have co := c_other_jobs (n := n - 1) (by omega) g.n j
  by_cases isl : ∃ ys, d = .list ys
  case neg =>
    obtain ⟨n1, _⟩ := not_list (fun ys e => isl ⟨ys, e⟩) (pl_noD hd)
    refine judge_f (by simp -implicitDefEqProofs [d_is_parting, n1]) ?_
    rintro ⟨l, e, _⟩
    exact isl ⟨_, e⟩
  obtain ⟨rows, rfl⟩ := isl
  have isL : isiD [.list] (.list rows) = some (.bool true) := rfl
  obtain ⟨hl, py⟩ := pl_items hd
  simp -implicitDefEqProofs [d_is_parting, isL, Option.bind_assoc]
  refine goF_use (Z := fun (o : Option D) => Judge o (PartV h.n j (.list rows))) (fun rest ρ => ∃ (pre : List (List Nat)) (t : Option D), ρ = [some (encH h), some (.int (j : Int)), some (.list rows), some (.list (natsD pre.flatten)), t] ∧ rows = pre.map rowD ++ rest ∧ ∀ l ∈ pre, l ≠ [] ∧ l.Pairwise (· < ·) ∧ ∀ o ∈ l, o < h.n) ⟨[], none, rfl, rfl, by simp⟩ ?_ ?_
  · rintro ρ ⟨pre, t, rfl, h1, h2⟩
    rw [List.append_nil] at h1
    subst h1
    have s1 := sorted_nats pre.flatten
    have s2 := sorted_rows pre
    have q1 := eq_row (isort pre.flatten) (others h.n j)
    have q2 := eq_rows (rsort pre) pre
    refine judge_b (b := decide (isort pre.flatten = others h.n j) && decide (rsort pre = pre)) ?_ ?_
    · by_cases z : isort pre.flatten = others h.n j <;> simp -implicitDefEqProofs [s1, s2, co, eq_row, eq_rows, z]
    · rw [Bool.and_eq_true, decide_eq_true_eq, decide_eq_true_eq]
      constructor
      · rintro ⟨a1, a2⟩
        have f1 : pre.flatten.length ≤ 5 := by
          rw [← isort_len, a1]
          exact Nat.le_trans (others_len _ _) hn5
        exact ⟨pre, rfl, h2, a1, a2, f1, Nat.le_trans (ne_len fun l hl => (h2 l hl).1) f1⟩
      · rintro ⟨ps, e, k⟩
        injection e with e
        have := rows_inj e
        subst this
        exact ⟨k.all, k.ord⟩
  · rintro x rest ρ ⟨pre, t, rfl, h1, h2⟩
    have hx : x ∈ rows := by rw [h1]; simp
    have px := py x hx
    obtain ⟨b, ci, cj⟩ := c_is_indexes_any (n := n - 1) (by omega) x px h.n
    have no : (∀ l, x = rowD l → ¬ (l ≠ [] ∧ l.Pairwise (· < ·) ∧ ∀ o ∈ l, o < h.n)) → ¬ PartV h.n j (.list rows) := by
      rintro q ⟨ps, e, k⟩
      injection e with e
      rw [e] at hx
      obtain ⟨l, hl, rfl⟩ := List.mem_map.mp hx
      exact q l rfl (k.row l hl)
    cases b with
    | false =>
      simp -implicitDefEqProofs [hjl, ci]
      refine judge_f (by simp) (no fun l e k => ?_)
      have : false = true := cj.mpr ⟨l, e, k.2⟩
      cases this
    | true =>
      obtain ⟨l, rfl, l1, l2⟩ := cj.mp rfl
      have lr : biD .len (rowD l) = some (.int (l.length : Int)) := by simp [rowD]
      by_cases q : l = []
      · subst q
        have lr : biD .len (rowD []) = some (.int 0) := rfl
        simp -implicitDefEqProofs [hjl, ci, lr]
        refine judge_f (by simp) (no fun l e k => ?_)
        exact k.1 (row_inj e).symm
      · have hl0 : ¬ ((l.length : Int) = 0) := by
          have := List.length_pos_iff.mpr q
          omega
        have l5 := asc_few l1 l2
        have pf : pre.flatten.length ≤ pre.length * 5 := flat_len fun m hm => by
          have := h2 m hm
          exact Nat.le_trans (asc_few this.2.1 this.2.2) hn5
        have pl : pre.length ≤ 1000 := by
          have := congrArg List.length h1
          simp at this
          omega
        have hex : extD 3 [some (encH h), some (.int (j : Int)), some (.list rows), some (.list (natsD pre.flatten)), some (rowD l)] (rowD l) (some (.list (natsD pre.flatten))) = some (.nx [some (encH h), some (.int (j : Int)), some (.list rows), some (.list (natsD (pre ++ [l]).flatten)), some (rowD l)]) := by
          have e1 : (natsD pre.flatten).length + (natsD l).length ≤ SL := by rw [nats_len, nats_len, SL_eq]; omega
          show extD 3 _ (.list (natsD l)) _ = _
          rw [extD_list, if_pos e1]
          simp
        have goal : ∃ (pre' : List (List Nat)) (t : Option D), [some (encH h), some (.int (j : Int)), some (.list rows), some (.list (natsD (pre ++ [l]).flatten)), some (rowD l)] = [some (encH h), some (.int (j : Int)), some (.list rows), some (.list (natsD pre'.flatten)), t] ∧ rows = pre'.map rowD ++ rest ∧ ∀ l ∈ pre', l ≠ [] ∧ l.Pairwise (· < ·) ∧ ∀ o ∈ l, o < h.n := by
          refine ⟨pre ++ [l], _, rfl, by rw [h1]; simp, fun m hm => ?_⟩
          rcases List.mem_append.mp hm with e | e
          · exact h2 m e
          · rw [List.mem_singleton.mp e]; exact ⟨q, l1, l2⟩
        generalize (pre ++ [l]).flatten = fl at hex goal
        have step : (bindP (.nm 4) (rowD l) [some (encH h), some (.int (j : Int)), some (.list rows), some (.list (natsD pre.flatten)), t]).bind (exB (Ph (n - 1)) 60 (.cons (.ite (.or (.not (.call .frz "is_indexes" (.cons (.var 4) (.cons (.bi .len (.ix (.var 0) (.int 1))) .nil)))) (.cmp .eq (.bi .len (.var 4)) (.int 0))) (.cons (.ret (.bl false)) .nil) .nil) (.cons (.ext 3 (.var 4)) .nil))) = some (.nx [some (encH h), some (.int (j : Int)), some (.list rows), some (.list (natsD fl)), some (rowD l)]) := by
          simp at hl0
          simp -implicitDefEqProofs [hjl, ci, lr, hl0, hex]
        rw [step]
        exact goal
def RightP (h : House) (c : List (List Nat)) (j : Nat) (d : D) : Prop := ∃ ps : List (List Nat), d = .list (ps.map rowD) ∧ RightOk h c j ps
theorem c_are_right_parts_any {n : Nat} (hn : 6 ≤ n) {h : House} (g : Good5 h) {c : List (List Nat)} (hc : Cuts h c) {j : Nat} (hj : j < h.n) (d : D) (hd : plB 6 d = true) : Judge (Ph n ("are_right_parts" : Str) [encH h, cutsD c, .int (j : Int), d]) (RightP h c j d) := by
  obtain ⟨b, cp, cq⟩ := c_is_parting_any (n := n - 1) (by omega) g (j := j) d hd
  rw [run_eq (d := d_are_right_parts) (by kernel_rfl) (by omega) _ rfl]
  cases b with
  | false =>
    refine judge_f (by simp -implicitDefEqProofs [d_are_right_parts, cp]) ?_
    rintro ⟨ps, e, k⟩
    have : false = true := cq.mpr ⟨ps, e, k.part⟩
    cases this
  | true =>
    obtain ⟨ps, rfl, pk⟩ := cq.mp rfl
    have cx := c_piece_accesses (n := n - 1) (by omega) g hj (by rw [hc.len]; exact hj) (hc.le j) (by have := hc.few j; omega)
    rw [accsL_eq] at cx
    have hx60 := xs_60 g c j
    have key : RightP h c j (.list (ps.map rowD)) ↔ ((List.range ps.length).all fun k => decide (((xsOf h c j).countP fun x => hitL h x (ps.getD k [])) ≤ 1) && (ps.drop (k + 1)).all fun m => (ps.getD k []).all fun i => m.all fun o => !h.adj i o) = true := by
      rw [List.all_eq_true]
      have gd : ∀ k (hk : k < ps.length), ps.getD k [] = ps[k] := fun k hk => by rw [List.getD_eq_getElem?_getD, List.getElem?_eq_getElem hk]; rfl
      constructor
      · rintro ⟨ps', e, k⟩ i hi
        injection e with e
        have := rows_inj e
        subst this
        have hi : i < ps.length := by simpa using hi
        rw [gd i hi, Bool.and_eq_true]
        refine ⟨by simpa using k.one _ (List.getElem_mem hi), ?_⟩
        rw [List.all_eq_true]
        intro m hm
        obtain ⟨u, hu, e⟩ := List.getElem_of_mem hm
        rw [List.getElem_drop] at e
        have hu2 : i + 1 + u < ps.length := by rw [List.length_drop] at hu; omega
        have := List.pairwise_iff_getElem.mp k.apart i (i + 1 + u) hi hu2 (by omega)
        rw [e] at this
        simp only [List.all_eq_true, Bool.not_eq_true']
        exact fun x hx y hy => this x hx y hy
      · intro all
        refine ⟨ps, rfl, pk, fun l hl => ?_, ?_⟩
        · obtain ⟨i, hi, rfl⟩ := List.mem_iff_getElem.mp hl
          have := (Bool.and_eq_true_iff.mp (all i (by simpa using hi))).1
          rw [gd i hi] at this
          simpa using this
        · rw [List.pairwise_iff_getElem]
          intro i k hi hk hik x hx y hy
          have := (Bool.and_eq_true_iff.mp (all i (by simpa using hi))).2
          rw [gd i hi] at this
          have hm : ps[k] ∈ ps.drop (i + 1) := by
            rw [List.mem_iff_getElem]
            refine ⟨k - (i + 1), by rw [List.length_drop]; omega, ?_⟩
            rw [List.getElem_drop]
            congr 1
            omega
          have := List.all_eq_true.mp this _ hm
          have := List.all_eq_true.mp this x hx
          have := List.all_eq_true.mp this y hy
          simpa using this
    generalize xsOf h c j = xs at cx hx60 key
    have pl := pk.few.2
    simp -implicitDefEqProofs [d_are_right_parts, cp, cx, rng_nat ps.length (by omega), Option.bind_assoc]
    refine goF_checkE (Z := fun (o : Option D) => Judge o (RightP h c j (.list (ps.map rowD)))) (as := List.range ps.length) (e := fun (k : Nat) => PyData.int (k : Int)) (t := ((none, none) : Option D × Option D))
      (fun t => [some (encH h), some (cutsD c), some (.int (j : Int)), some (.list (ps.map rowD)), some (.list (xs.map encW)), t.1, t.2]) (fun k => decide ((xs.countP fun x => hitL h x (ps.getD k [])) ≤ 1) && (ps.drop (k + 1)).all fun m => (ps.getD k []).all fun i => m.all fun o => !h.adj i o) (.bool false) (fun k hk t => ?_) (fun t hall => ?_) fun hall => ?_
    · have hk : k < ps.length := by simpa using hk
      obtain ⟨t1, t2⟩ := t
      have a1 : atD (ps.map rowD) (k : Int) = some (rowD (ps.getD k [])) := by
        rw [atD_nat, List.getElem?_map, List.getElem?_eq_getElem hk, List.getD_eq_getElem?_getD, List.getElem?_eq_getElem hk]; rfl
      have hm : ps.getD k [] ∈ ps := by
        rw [List.getD_eq_getElem?_getD, List.getElem?_eq_getElem hk]; exact List.getElem_mem hk
      have hlt := (pk.row _ hm).2.2
      generalize ps.getD k [] = l at a1 hlt
      have cm := c_pieces_met (n := n - 1) (by omega) g hx60 hlt
      have cm : Ph (n - 1) (Str.ofString "pieces_met") [encH h, .list (xs.map encW), rowD l] = some (.int ((xs.countP fun x => hitL h x l : Nat) : Int)) := cm
      generalize (xs.countP fun x => hitL h x l) = cnt at cm
      by_cases q : cnt ≤ 1
      · have h2 : ¬ ((1 : Int) < (cnt : Int)) := by omega
        have dr := drop_rows ps k
        generalize hA : ((ps.drop (k + 1)).all fun m => l.all fun i => m.all fun o => !h.adj i o) = A
        simp -implicitDefEqProofs [a1, cm, h2, dr, q, Option.bind_assoc]
        rw [← List.map_drop]
        refine goF_check (Z := fun (r : Option R) => ∃ a b, r = some (if A then R.nx [some (encH h), some (cutsD c), some (.int (j : Int)), some (.list (ps.map rowD)), some (.list (xs.map encW)), a, b] else .rt (.bool false))) (as := ps.drop (k + 1)) (e := rowD)
          (fun t => [some (encH h), some (cutsD c), some (.int (j : Int)), some (.list (ps.map rowD)), some (.list (xs.map encW)), some (.int (k : Int)), t]) (fun m => l.all fun i => m.all fun o => !h.adj i o) (.bool false) (fun m hm2 t => ?_) (fun t hall => ?_) fun hall => ?_
        · have hm3 : m ∈ ps := List.mem_of_mem_drop hm2
          have hlt2 := (pk.row _ hm3).2.2
          have ca := c_are_apart (n := n - 1) (by omega) g hlt hlt2
          have ca : Ph (n - 1) (Str.ofString "are_apart") [encH h, rowD l, rowD m] = _ := ca
          generalize (l.all fun i => m.all fun o => !h.adj i o) = bb at ca ⊢
          cases bb <;> simp -implicitDefEqProofs [a1, ca]
        · rw [hall] at hA
          subst hA
          exact ⟨_, _, rfl⟩
        · rw [hall] at hA
          subst hA
          exact ⟨none, none, rfl⟩
      · have h2 : (1 : Int) < (cnt : Int) := by omega
        simp -implicitDefEqProofs [a1, cm, h2, q]
    · refine judge_b (b := true) (by simp) ?_
      rw [key, hall]
    · refine judge_f (by simp) fun k => ?_
      rw [key.mp k] at hall
      cases hall
theorem pl_mono : ∀ (n : Nat) (d : D), plB n d = true → plB (n + 1) d = true
  | 0, _, h => by cases h
  | n + 1, d, h => by
    cases d with
    | list xs =>
      obtain ⟨h1, h2⟩ := pl_items h
      exact pl_list h1 fun x hx => pl_mono n x (h2 x hx)
    | tuple xs =>
      obtain ⟨h1, h2⟩ := pl_tups h
      exact pl_tup h1 fun x hx => pl_mono n x (h2 x hx)
    | dict _ => simp [plB] at h
    | _ => first | rfl | (simp [plB] at h)
def RightV (h : House) (c : List (List Nat)) (v : D) : Prop := ∃ (rows : List D), v = .tuple [.str ("right" : Str), .list rows] ∧ rows.length = h.n ∧ ∀ j, j < h.n → RightP h c j (rows.getD j .none)
theorem c_shows_right_any {n : Nat} (hn : 7 ≤ n) {h : House} (g : Good5 h) {c : List (List Nat)} (hc : Cuts h c) (v : D) (hv : plB 7 v = true) : Judge (Ph n ("shows_right_cuts" : Str) [encH h, cutsD c, v]) (RightV h c v) := by
  rw [run_eq (d := d_shows_right_cuts) (by kernel_rfl) (by omega) _ rfl]
  have hjl : h.jobs.length = h.n := rfl
  have hn5 := g.n
  have ct := c_is_tagged_any (n := n - 1) (by omega) v (pl_noD hv) (fun ds e x hx => pl_noD (n := 5) ((pl_tups (e ▸ hv)).2 x hx)) (Str.ofString "right") 2 (by omega)
  by_cases q : tagB (Str.ofString "right") 2 v = true
  case neg =>
    rw [Bool.not_eq_true] at q
    rw [q] at ct
    refine judge_f ?_ ?_
    · have ct : Ph (n - 1) (Str.ofString "is_tagged") [v, .str (Str.ofString "right"), .int 2] = some (.bool false) := ct
      simp -implicitDefEqProofs [d_shows_right_cuts, ct]
    · rintro ⟨rows, rfl, _⟩
      have : tagB (Str.ofString "right") 2 (.tuple [.str ("right" : Str), .list rows]) = true := by simp [tagB]
      rw [this] at q
      cases q
  rw [q] at ct
  have ct : Ph (n - 1) (Str.ofString "is_tagged") [v, .str (Str.ofString "right"), .int 2] = some (.bool true) := ct
  obtain ⟨r, rfl, hr⟩ := tagB_ok q
  obtain ⟨x, rfl⟩ : ∃ x, r = [x] := by
    match r, hr with
    | [a], _ => exact ⟨a, rfl⟩
  have px := (pl_tups hv).2 x (by simp)
  by_cases isl : ∃ ys, x = .list ys
  case neg =>
    obtain ⟨n1, _⟩ := not_list (fun ys e => isl ⟨ys, e⟩) (pl_noD px)
    refine judge_f (by simp -implicitDefEqProofs [d_shows_right_cuts, ct, n1]) ?_
    rintro ⟨rows, e, _⟩
    injection e with e
    injection e with _ e
    injection e with e _
    exact isl ⟨_, e⟩
  obtain ⟨rows, rfl⟩ := isl
  have isL : isiD [.list] (.list rows) = some (.bool true) := rfl
  have inv : RightV h c (.tuple [.str (Str.ofString "right"), .list rows]) → rows.length = h.n ∧ ∀ j, j < h.n → RightP h c j (rows.getD j .none) := by
    rintro ⟨rows', e, k⟩
    injection e with e
    injection e with _ e
    injection e with e _
    injection e with e
    subst e
    exact k
  by_cases ql : rows.length = h.n
  case neg =>
    have ql' : ¬ (rows.length : Int) = (h.n : Int) := by omega
    exact judge_f (by simp -implicitDefEqProofs [d_shows_right_cuts, ct, isL, hjl, ql']) fun k => ql (inv k).1
  have ql' : (rows.length : Int) = (h.n : Int) := by omega
  have pr := (pl_items px).2
  simp -implicitDefEqProofs [d_shows_right_cuts, ct, isL, hjl, ql', rng_nat h.n (by omega), Option.bind_assoc]
  refine goF_map (Z := fun (o : Option D) => Judge o (RightV h c (.tuple [.str (Str.ofString "right"), .list rows]))) (as := List.range h.n) (e := fun (k : Nat) => PyData.int (k : Int))
    (fun rest ρ => ∃ t, ρ = [some (encH h), some (cutsD c), some (.tuple [.str (Str.ofString "right"), .list rows]), t] ∧ (∀ j, j < h.n → j ∉ rest → RightP h c j (rows.getD j .none)) ∧ ∀ j ∈ rest, j < h.n) ⟨none, rfl, fun j h1 h2 => absurd (List.mem_range.mpr h1) h2, by simp⟩ ?_ ?_
  · rintro ρ ⟨t, rfl, h1, _⟩
    exact judge_b (b := true) (by simp) ⟨fun _ => ⟨rows, rfl, ql, fun j hj => h1 j hj (by simp)⟩, fun _ => rfl⟩
  · rintro j rest ρ ⟨t, rfl, h1, h2⟩
    have hj := h2 j (by simp)
    have hjr : j < rows.length := by omega
    have ar : atD rows (j : Int) = some (rows.getD j .none) := getD_at hjr
    have pj : plB 6 (rows.getD j .none) = true := by
      rw [List.getD_eq_getElem?_getD, List.getElem?_eq_getElem hjr]
      exact pl_mono _ _ (pr _ (List.getElem_mem hjr))
    obtain ⟨b, cr, cq⟩ := c_are_right_parts_any (n := n - 1) (by omega) g hc hj _ pj
    have inv2 := fun k => (inv k).2 j hj
    have h1' : ∀ i, i < h.n → i ∉ rest → i ≠ j → RightP h c i (rows.getD i .none) := fun i a b d => h1 i a (by simp [b, d])
    generalize hrow : rows.getD j .none = row at ar cr cq inv2
    cases b with
    | false =>
      simp -implicitDefEqProofs [ar, cr]
      exact judge_f (by simp) fun k => by have : false = true := cq.mpr (inv2 k); cases this
    | true =>
      have pr := cq.mp rfl
      have goal : ∃ t, [some (encH h), some (cutsD c), some (.tuple [.str (Str.ofString "right"), .list rows]), some (.int (j : Int))] = [some (encH h), some (cutsD c), some (.tuple [.str (Str.ofString "right"), .list rows]), t] ∧ (∀ j, j < h.n → j ∉ rest → RightP h c j (rows.getD j .none)) ∧ ∀ j ∈ rest, j < h.n := by
        refine ⟨_, rfl, fun i a b => ?_, fun i hi => h2 i (by simp [hi])⟩
        by_cases e : i = j
        · subst e; rw [hrow]; exact pr
        · exact h1' i a b e
      have step : (bindP (.nm 3) (.int (j : Int)) [some (encH h), some (cutsD c), some (.tuple [.str (Str.ofString "right"), .list rows]), t]).bind (exB (Ph (n - 1)) 60 (.cons (.ite (.not (.call .frz "are_right_parts" (.cons (.var 0) (.cons (.var 1) (.cons (.var 3) (.cons (.ix (.ix (.var 2) (.int 1)) (.var 3)) .nil)))))) (.cons (.ret (.bl false)) .nil) .nil) .nil)) = some (.nx [some (encH h), some (cutsD c), some (.tuple [.str (Str.ofString "right"), .list rows]), some (.int (j : Int))]) := by
        simp -implicitDefEqProofs [ar, cr]
      rw [step]
      exact goal
end Q
set_option autoImplicit false
set_option linter.all false
set_option maxRecDepth 100000
set_option maxHeartbeats 4000000
namespace Q
open PySem
structure LawOk (n j : Nat) (ps : List (List Nat)) : Prop where
  ne : ∀ l ∈ ps, l ≠ []
  nd : ps.flatten.Nodup
  inn : ∀ o ∈ ps.flatten, o < n ∧ o ≠ j
theorem others_mem {n j o : Nat} : o ∈ others n j ↔ o < n ∧ o ≠ j := by
  unfold others
  rw [List.mem_filter, List.mem_range, decide_eq_true_eq]
theorem others_asc (n j : Nat) : (others n j).Pairwise (· < ·) := List.pairwise_lt_range.filter _
theorem others_count {n j : Nat} (hj : j < n) : (others n j).length + 1 = n := by
  have h1 := others_few hj
  have h2 := L2.nat_nodup_len (List.range n) (j :: others n j) List.nodup_range fun o ho => by
    by_cases q : o = j
    · simp [q]
    · exact List.mem_cons.mpr (.inr (others_mem.mpr ⟨List.mem_range.mp ho, q⟩))
  rw [List.length_range, List.length_cons] at h2
  omega
theorem isort_asc (l : List Nat) : (isort l).Pairwise (· ≤ ·) := by
  have so : (isort l).Pairwise fun a b => (fun a b => decide (a ≤ b)) a b = true := List.pairwise_mergeSort (fun a b c => by simp; omega) (fun a b => by simp; omega) _
  exact so.imp fun h => by simpa using h
theorem isort_perm (l : List Nat) : (isort l).Perm l := List.mergeSort_perm _ _
theorem isort_id {l : List Nat} (h : l.Pairwise (· ≤ ·)) : isort l = l := by
  refine sorted_unique (· ≤ ·) (fun a b h1 h2 => Nat.le_antisymm h1 h2) _ _ (isort_perm l) (isort_asc l) h
theorem asc_le {l : List Nat} (h : l.Pairwise (· < ·)) : l.Pairwise (· ≤ ·) := h.imp fun h => Nat.le_of_lt h
theorem le_asc {l : List Nat} (h : l.Pairwise (· ≤ ·)) (nd : l.Nodup) : l.Pairwise (· < ·) := by
  have := h.and nd
  exact this.imp fun ⟨x, y⟩ => by omega
theorem rsort_perm (l : List (List Nat)) : (rsort l).Perm l := List.mergeSort_perm _ _
theorem part_law {n j : Nat} (hj : j < n) {ps : List (List Nat)} (k : PartOk n j ps) : LawOk n j ps ∧ ps.flatten.length + 1 = n ∧ ps = rsort (ps.map isort) := by
  have pm : ps.flatten.Perm (others n j) := (isort_perm _).symm.trans (by rw [k.all])
  refine ⟨⟨fun l hl => (k.row l hl).1, pm.nodup_iff.mpr (others_nd n j), fun o ho => others_mem.mp (pm.mem_iff.mp ho)⟩, by rw [pm.length_eq]; exact others_count hj, ?_⟩
  have e : ps.map isort = ps := by
    have : ps.map isort = ps.map id := List.map_congr_left fun l hl => isort_id (asc_le (k.row l hl).2.1)
    rw [this]; simp
  rw [e, k.ord]
theorem mem_flat {ps : List (List Nat)} {l : List Nat} (h : l ∈ ps) {o : Nat} (ho : o ∈ l) : o ∈ ps.flatten := List.mem_flatten.mpr ⟨l, h, ho⟩
theorem flat_nd {ps : List (List Nat)} (h : ps.flatten.Nodup) {l : List Nat} (hl : l ∈ ps) : l.Nodup := by
  have := List.pairwise_flatten.mp h
  exact this.1 l hl
theorem asc_ext : ∀ {l m : List Nat}, l.Pairwise (· < ·) → m.Pairwise (· < ·) → (∀ k, k ∈ l ↔ k ∈ m) → l = m
  | [], [], _, _, _ => rfl
  | [], b :: m, _, _, h => by have := (h b).mpr (by simp); cases this
  | a :: l, [], _, _, h => by have := (h a).mp (by simp); cases this
  | a :: l, b :: m, h1, h2, h => by
    obtain ⟨p1, p2⟩ := List.pairwise_cons.mp h1
    obtain ⟨q1, q2⟩ := List.pairwise_cons.mp h2
    have e : a = b := by
      have x := (h a).mp (by simp)
      have y := (h b).mpr (by simp)
      rcases List.mem_cons.mp x with x | x
      · exact x
      · rcases List.mem_cons.mp y with y | y
        · exact y.symm
        · have := p1 b y; have := q1 a x; omega
    subst e
    rw [asc_ext p2 q2 fun k => ?_]
    have hk := h k
    constructor
    · intro z
      rcases List.mem_cons.mp (hk.mp (by simp [z])) with e | e
      · have := p1 k z; omega
      · exact e
    · intro z
      rcases List.mem_cons.mp (hk.mpr (by simp [z])) with e | e
      · have := q1 k z; omega
      · exact e
theorem law_part {n j : Nat} (hn : n ≤ 5) (hj : j < n) {ps : List (List Nat)} (k : LawOk n j ps) (h1 : ps.flatten.length + 1 = n) (h2 : ps = rsort (ps.map isort)) : PartOk n j ps := by
  have row : ∀ l ∈ ps, l.Pairwise (· < ·) := fun l hl => by
    have hl2 := hl
    rw [h2] at hl2
    obtain ⟨m, _, e⟩ := List.mem_map.mp ((rsort_perm _).mem_iff.mp hl2)
    exact le_asc (e ▸ isort_asc m) (flat_nd k.nd hl)
  have e : ps.map isort = ps := by
    have : ps.map isort = ps.map id := List.map_congr_left fun l hl => isort_id (asc_le (row l hl))
    rw [this]; simp
  have mem : ∀ o, o ∈ ps.flatten ↔ o ∈ others n j := fun o => by
    refine ⟨fun ho => others_mem.mpr (k.inn o ho), fun ho => ?_⟩
    by_cases q : o ∈ ps.flatten
    · exact q
    · have := L2.nat_nodup_len (o :: ps.flatten) (others n j) (List.nodup_cons.mpr ⟨q, k.nd⟩) fun x hx => by
        rcases List.mem_cons.mp hx with e | e
        · rw [e]; exact ho
        · exact others_mem.mpr (k.inn x e)
      have := others_count hj
      simp only [List.length_cons] at *
      omega
  have f5 : ps.flatten.length ≤ 5 := by omega
  refine ⟨fun l hl => ⟨k.ne l hl, row l hl, fun o ho => (k.inn o (mem_flat hl ho)).1⟩, ?_, by rw [e] at h2; exact h2.symm, f5, Nat.le_trans (ne_len k.ne) f5⟩
  exact asc_ext (le_asc (isort_asc _) ((isort_perm _).nodup_iff.mpr k.nd)) (others_asc n j) fun o => by rw [isort_mem]; exact mem o
theorem law_take {n j : Nat} {a b : List (List Nat)} (k : LawOk n j (a ++ b)) : LawOk n j a := by
  have f : (a ++ b).flatten = a.flatten ++ b.flatten := by simp
  have nd := k.nd
  have inn := k.inn
  rw [f] at nd inn
  exact ⟨fun l hl => k.ne l (by simp [hl]), (List.nodup_append.mp nd).1, fun o ho => inn o (by simp only [List.mem_append]; exact .inl ho)⟩
theorem law_add {n j : Nat} {a : List (List Nat)} {l : List Nat} (k : LawOk n j a) : LawOk n j (a ++ [l]) ↔ l ≠ [] ∧ dstB n j a.flatten (natsD l) = true := by
  have f : (a ++ [l]).flatten = a.flatten ++ l := by simp
  rw [dstB_iff]
  constructor
  · intro q
    have nd := q.nd
    have inn := q.inn
    rw [f] at nd inn
    obtain ⟨_, n2, n3⟩ := List.nodup_append.mp nd
    exact ⟨q.ne l (by simp), l, rfl, fun o ho => inn o (List.mem_append.mpr (.inr ho)), n2, fun o ho z => n3 o z o ho rfl⟩
  · rintro ⟨ne, l', e, h1, h2, h3⟩
    have := nats_inj e
    subst this
    refine ⟨fun m hm => ?_, ?_, ?_⟩
    · rcases List.mem_append.mp hm with q | q
      · exact k.ne m q
      · rw [List.mem_singleton.mp q]; exact ne
    · rw [f, List.nodup_append]
      exact ⟨k.nd, h2, fun x hx y hy e => h3 y hy (e ▸ hx)⟩
    · rw [f]
      intro o ho
      rcases List.mem_append.mp ho with q | q
      · exact k.inn o q
      · exact h1 o q
def strB (h : House) (ps : List (List Nat)) (l : List Nat) : Bool := (ps.flatten.filter fun o => !l.contains o).all fun o => !l.any fun i => h.adj i o
theorem str_apart {h : House} {ps : List (List Nat)} (nd : ps.flatten.Nodup) : (∀ l ∈ ps, strB h ps l = true) ↔ ps.Pairwise fun l m => ∀ i ∈ l, ∀ k ∈ m, h.adj i k = false := by
  have str : ∀ l, strB h ps l = true ↔ ∀ o ∈ ps.flatten, o ∉ l → ∀ i ∈ l, h.adj i o = false := fun l => by
    unfold strB
    simp only [List.all_eq_true, List.mem_filter, Bool.not_eq_true', List.any_eq_false, List.contains_eq_mem, decide_eq_false_iff_not]
    constructor
    · intro q o ho hn i hi
      have := q o ⟨ho, hn⟩ i hi
      simpa using this
    · rintro q o ⟨ho, hn⟩ i hi
      simpa using q o ho hn i hi
  obtain ⟨_, nd2⟩ := List.pairwise_flatten.mp nd
  constructor
  · intro q
    refine nd2.imp_of_mem fun {l m} hl hm dis i hi k hk => ?_
    exact (str l).mp (q l hl) k (mem_flat hm hk) (fun z => dis k z k hk rfl) i hi
  · intro q l hl
    rw [str]
    intro o ho hn i hi
    obtain ⟨m, hm, hom⟩ := List.mem_flatten.mp ho
    obtain ⟨a, ha, rfl⟩ := List.mem_iff_getElem.mp hl
    obtain ⟨b, hb, rfl⟩ := List.mem_iff_getElem.mp hm
    rcases Nat.lt_trichotomy a b with c | c | c
    · exact List.pairwise_iff_getElem.mp q a b ha hb c i hi o hom
    · subst c; exact absurd hom hn
    · rw [adj_sym]
      exact List.pairwise_iff_getElem.mp q b a hb ha c o hom i hi
end Q
set_option autoImplicit false
set_option linter.all false
set_option maxRecDepth 100000
set_option maxHeartbeats 4000000
namespace Q
open PySem
def lbnEnv (h : House) (c : List (List Nat)) (job : Nat) (d : D) (seen : List Nat) (t5 t6 t7 t8 t9 t10 t11 t12 t13 t14 t15 t16 : Option D) : Env := [some (encH h), some (cutsD c), some (.int (job : Int)), some d, some (.list (natsD seen)), t5, t6, t7, t8, t9, t10, t11, t12, t13, t14, t15, t16]
def lb1 (h : House) (c : List (List Nat)) (job : Nat) (rows : List D) (rest : List D) (ρ : Env) : Prop := ∃ (pre : List (List Nat)) (t5 t6 t7 t8 t9 t10 t11 t12 t13 t14 t15 t16 : Option D), ρ = lbnEnv h c job (.list rows) pre.flatten t5 t6 t7 t8 t9 t10 t11 t12 t13 t14 t15 t16 ∧ rows = pre.map rowD ++ rest ∧ LawOk h.n job pre
def lb2 (h : House) (c : List (List Nat)) (job : Nat) (rows ys : List D) (pre : List (List Nat)) (rest : List D) (ρ : Env) : Prop := ∃ (m : List Nat) (t6 t7 t8 t9 t10 t11 t12 t13 t14 t15 t16 : Option D), ρ = lbnEnv h c job (.list rows) (pre.flatten ++ m) (some (.list ys)) t6 t7 t8 t9 t10 t11 t12 t13 t14 t15 t16 ∧ ys = natsD m ++ rest ∧ dstB h.n job (pre.flatten ++ m) rest = dstB h.n job pre.flatten ys
def lb3 (h : House) (c : List (List Nat)) (job : Nat) (ps : List (List Nat)) (xs : List (List Acc)) (rest : List Nat) (ρ : Env) : Prop := ∃ (t5 t6 t9 t10 t11 t12 t13 t14 t15 t16 : Option D), ρ = lbnEnv h c job (.list (ps.map rowD)) ps.flatten t5 t6 (some (.list ((List.range h.n).map fun o => encW (h.acc o)))) (some (.list (xs.map encW))) t9 t10 t11 t12 t13 t14 t15 t16 ∧ (∀ k, k < ps.length → k ∉ rest → strB h ps (ps.getD k []) = true ∧ (xs.countP fun x => hitL h x (ps.getD k [])) ≤ 1) ∧ ∀ k ∈ rest, k < ps.length
theorem pre_right {h : House} {c : List (List Nat)} {job : Nat} (hj : job < h.n) {pre : List (List Nat)} {x : D} {rest : List D} (k : RightP h c job (.list (pre.map rowD ++ x :: rest))) : ∃ l, x = rowD l ∧ LawOk h.n job (pre ++ [l]) := by
  obtain ⟨ps, e, q⟩ := k
  injection e with e
  have lk := (part_law hj q.part).1
  obtain ⟨a, b, rfl, e1, e2⟩ := List.append_eq_map_iff.mp e
  have := rows_inj e1
  subst this
  cases b with
  | nil => cases e2
  | cons l b =>
    injection e2 with e2 e3
    refine ⟨l, e2.symm, ?_⟩
    rw [show a ++ l :: b = (a ++ [l]) ++ b by simp] at lk
    exact law_take lk
theorem law_few {n j : Nat} {ps : List (List Nat)} (k : LawOk n j ps) : ps.flatten.length ≤ n := by
  have := L2.nat_nodup_len ps.flatten (List.range n) k.nd fun o ho => List.mem_range.mpr (k.inn o ho).1
  simpa using this
theorem whole_eq (h : House) : (h.jobs.map fun x => encW (accs x.2.2)) = (List.range h.n).map fun o => encW (h.acc o) := by
  apply List.ext_getElem
  · simp [House.n]
  · intro i h1 h2
    simp only [List.length_map] at h1
    simp [House.acc, House.body, h1]
theorem fm_len {α : Type} (l : List α) (p : α → Bool) (e : α → D) : (l.filterMap fun a => if p a then some (e a) else none).length = l.countP p := by
  induction l with
  | nil => rfl
  | cons a l ih => cases q : p a <;> simp [q, ih]
theorem c_law_is_bunches {n : Nat} (hn : 6 ≤ n) {h : House} (g : Good5 h) {c : List (List Nat)} (hc : Cuts h c) {job : Nat} (hj : job < h.n) (d : D) (hd : plB 6 d = true) : Judge (Ph n ("_law_is_bunches" : Str) [encH h, cutsD c, .int (job : Int), d]) (RightP h c job d) := by
  rw [run_eq (d := d_law_is_bunches) (by kernel_rfl) (by omega) _ rfl]
  have hjl : h.jobs.length = h.n := rfl
  have hn5 := g.n
  by_cases isl : ∃ ys, d = .list ys
  case neg =>
    obtain ⟨n1, _⟩ := not_list (fun ys e => isl ⟨ys, e⟩) (pl_noD hd)
    refine judge_f (by simp -implicitDefEqProofs [d_law_is_bunches, n1]) ?_
    rintro ⟨l, e, _⟩
    exact isl ⟨_, e⟩
  obtain ⟨rows, rfl⟩ := isl
  have isL : ∀ rows, isiD [.list] (.list rows) = some (.bool true) := fun _ => rfl
  obtain ⟨hl, py⟩ := pl_items hd
  simp -implicitDefEqProofs [d_law_is_bunches, isL, Option.bind_assoc]
  refine goF_use (Z := fun (o : Option D) => Judge o (RightP h c job (.list rows))) (lb1 h c job rows) ⟨[], none, none, none, none, none, none, none, none, none, none, none, none, rfl, rfl, ⟨by simp, by simp, by simp⟩⟩ (fun ρ ⟨ps, t5, t6, t7, t8, t9, t10, t11, t12, t13, t14, t15, t16, eρ, h1, lk⟩ => ?_) fun x rest ρ ⟨pre, t5, t6, t7, t8, t9, t10, t11, t12, t13, t14, t15, t16, eρ, h1, lk⟩ => ?_
  · subst eρ
    rw [List.append_nil] at h1
    subst h1
    have inv : RightP h c job (.list (ps.map rowD)) → RightOk h c job ps := by
      rintro ⟨ps', e, k⟩
      injection e with e
      have := rows_inj e
      subst this
      exact k
    have hl : ps.length ≤ 1000 := by simpa using hl
    have lf := law_few lk
    by_cases q1 : ps.flatten.length + 1 = h.n
    case neg =>
      have q1' : ¬ ((ps.flatten.length : Int) = (h.n : Int) - 1) := by omega
      have le : biD .len (.list (natsD ps.flatten)) = some (.int (ps.flatten.length : Int)) := by simp only [len_list, nats_len]
      generalize hfl : ps.flatten = fl at *
      simp -implicitDefEqProofs [lbnEnv, hjl, le, q1']
      exact judge_f (by simp) fun k => by
        have := (part_law hj (inv k).part).2.1
        rw [hfl] at this
        exact q1 this
    have q1' : ((ps.flatten.length : Int) = (h.n : Int) - 1) := by omega
    have le : biD .len (.list (natsD ps.flatten)) = some (.int (ps.flatten.length : Int)) := by simp only [len_list, nats_len]
    have e1 : fmM (turnE (Ph (n - 1)) [5] (.nm 5) false .non (.bi .sorted (.var 5)) (lbnEnv h c job (.list (ps.map rowD)) ps.flatten t5 t6 t7 t8 t9 t10 t11 t12 t13 t14 t15 t16)) (ps.map rowD) = some ((ps.map isort).map rowD) := by
      rw [List.map_map]
      refine fmM_all _ fun l hl => ?_
      have s := sorted_nats l
      have s : biD .sorted (rowD l) = some (rowD (isort l)) := s
      simp -implicitDefEqProofs [turnE, lbnEnv, s]
    have s1 := sorted_rows (ps.map isort)
    have er := eq_rows ps (rsort (ps.map isort))
    by_cases q2 : ps = rsort (ps.map isort)
    case neg =>
      have er : eqD (.list (ps.map rowD)) (.list ((rsort (ps.map isort)).map rowD)) = some false := by rw [er, decide_eq_false q2]
      have no : ¬ RightP h c job (.list (ps.map rowD)) := fun k => q2 (part_law hj (inv k).part).2.2
      generalize hfl : ps.flatten = fl at *
      generalize rsort (ps.map isort) = rs at s1 er
      generalize ps.map isort = is at e1 s1
      unfold lbnEnv at e1
      simp -implicitDefEqProofs [lbnEnv, hjl, le, q1', e1, s1, er]
      exact judge_f (by simp) no
    have er : eqD (.list (ps.map rowD)) (.list ((rsort (ps.map isort)).map rowD)) = some true := by rw [er, decide_eq_true q2]
    have pk := law_part hn5 hj lk q1 q2
    have e2 : fmM (turnE (Ph (n - 1)) [11, 12, 13] (.tp [11, 12, 13]) false .non (.call .frz "_law_accesses" (.cons (.var 0) (.cons (.var 13) .nil))) (lbnEnv h c job (.list (ps.map rowD)) ps.flatten t5 t6 t7 t8 t9 t10 t11 t12 t13 t14 t15 t16)) (h.jobs.map encJ) = some ((List.range h.n).map fun o => encW (h.acc o)) := by
      rw [← whole_eq]
      refine fmM_all _ fun x hx => ?_
      obtain ⟨i, hi, rfl⟩ := List.mem_iff_getElem.mp hx
      have hb : h.body i = h.jobs[i].2.2 := by unfold House.body; rw [List.getElem?_eq_getElem hi]; rfl
      have c2 := c_law_accesses (n := n - 1) (by omega) g.m (g.ok i) (g.len i)
      rw [hb] at c2
      simp -implicitDefEqProofs [turnE, lbnEnv, encJ, c2]
    have cp := c_law_pieces (n := n - 1) (by omega) g hc hj
    have e3 : fmM (turnE (Ph (n - 1)) [14] (.nm 14) false .non (.call .frz "_law_accesses" (.cons (.var 0) (.cons (.var 14) .nil))) (lbnEnv h c job (.list (ps.map rowD)) ps.flatten t5 t6 (some (.list ((List.range h.n).map fun o => encW (h.acc o)))) t8 t9 t10 t11 t12 t13 t14 t15 t16)) ((pieces (h.body job) (c.getD job [])).map bodyD) = some ((xsOf h c job).map encW) := by
      unfold xsOf
      rw [List.map_map]
      refine fmM_all _ fun p hp => ?_
      unfold pieces at hp
      obtain ⟨k, _, rfl⟩ := List.mem_map.mp hp
      have c2 := c_law_accesses (n := n - 1) (by omega) g.m (b := piece (h.body job) (c.getD job []) k) (fun s hs => g.ok job s (piece_sub hs)) (Nat.le_trans (piece_len _ _ _) (g.len job))
      generalize piece (h.body job) (c.getD job []) k = p at c2
      simp -implicitDefEqProofs [turnE, lbnEnv, c2]
    have key : RightP h c job (.list (ps.map rowD)) ↔ ∀ k, k < ps.length → strB h ps (ps.getD k []) = true ∧ ((xsOf h c job).countP fun x => hitL h x (ps.getD k [])) ≤ 1 := by
      have gd : ∀ k (hk : k < ps.length), ps.getD k [] = ps[k] := fun k hk => by rw [List.getD_eq_getElem?_getD, List.getElem?_eq_getElem hk]; rfl
      constructor
      · intro k i hi
        have r := inv k
        rw [gd i hi]
        exact ⟨(str_apart lk.nd).mpr r.apart _ (List.getElem_mem hi), r.one _ (List.getElem_mem hi)⟩
      · intro q
        refine ⟨ps, rfl, pk, fun l hl => ?_, (str_apart lk.nd).mp fun l hl => ?_⟩
        · obtain ⟨i, hi, rfl⟩ := List.mem_iff_getElem.mp hl
          have := (q i hi).2
          rwa [gd i hi] at this
        · obtain ⟨i, hi, rfl⟩ := List.mem_iff_getElem.mp hl
          have := (q i hi).1
          rwa [gd i hi] at this
    have itj : itemsD (jobsD h.jobs) = some (h.jobs.map encJ) := rfl
    have hps := pk.few.2
    have prow := pk.row
    generalize xsOf h c job = xs at e3 key
    generalize pieces (h.body job) (c.getD job []) = pcs at cp e3
    generalize hfl : ps.flatten = fl at *
    generalize rsort (ps.map isort) = rs at s1 er
    generalize ps.map isort = is at e1 s1
    unfold lbnEnv at e1 e2 e3
    simp -implicitDefEqProofs [lbnEnv, hjl, le, q1', e1, s1, er, itj, e2, cp, e3, rng_nat ps.length (by omega), Option.bind_assoc]
    refine goF_map (Z := fun (o : Option D) => Judge o (RightP h c job (.list (ps.map rowD)))) (as := List.range ps.length) (e := fun (k : Nat) => PyData.int (k : Int)) (lb3 h c job ps xs)
      ⟨t5, t6, t9, t10, t11, t12, t13, t14, t15, t16, by unfold lbnEnv; rw [hfl], fun k h1 h2 => absurd (List.mem_range.mpr h1) h2, by simp⟩ (fun ρ ⟨t5, t6, t9, t10, t11, t12, t13, t14, t15, t16, eρ, h1, h2⟩ => ?_) fun k rest ρ ⟨t5, t6, t9, t10, t11, t12, t13, t14, t15, t16, eρ, h1, h2⟩ => ?_
    · subst eρ
      refine judge_b (b := true) (by simp -implicitDefEqProofs [lbnEnv]) ⟨fun _ => key.mpr fun k hk => h1 k hk (by simp), fun _ => rfl⟩
    · subst eρ
      have hk := h2 k (by simp)
      have a1 : atD (ps.map rowD) (k : Int) = some (rowD (ps.getD k [])) := by
        rw [atD_nat, List.getElem?_map, List.getElem?_eq_getElem hk, List.getD_eq_getElem?_getD, List.getElem?_eq_getElem hk]; rfl
      have hm : ps.getD k [] ∈ ps := by
        rw [List.getD_eq_getElem?_getD, List.getElem?_eq_getElem hk]; exact List.getElem_mem hk
      have hlt := (prow _ hm).2.2
      have h1' : ∀ i, i < ps.length → i ∉ rest → i ≠ k → strB h ps (ps.getD i []) = true ∧ (xs.countP fun x => hitL h x (ps.getD i [])) ≤ 1 := fun i a b d => h1 i a (by simp [b, d])
      have kk := fun q => key.mp q k hk
      have hfn : ∀ o ∈ ps.flatten, o < h.n := fun o ho => (lk.inn o ho).1
      have gW : ∀ o, o < h.n → atD ((List.range h.n).map fun o => encW (h.acc o)) (o : Int) = some (encW (h.acc o)) := fun o ho => by
        rw [atD_nat, List.getElem?_map, List.getElem?_range ho]; rfl
      have strE : ∀ l, strB h ps l = (ps.flatten.filter fun o => !l.contains o).all fun o => !l.any fun i => h.adj i o := fun l => rfl
      generalize hlk : ps.getD k [] = l at a1 hm hlt kk
      rw [strE, hfl] at kk
      have go : strB h ps l = true → (xs.countP fun x => hitL h x l) ≤ 1 → ∀ t5 t6 t9 t10 t11 t12 t13 t14 t15 t16, lb3 h c job ps xs rest (lbnEnv h c job (.list (ps.map rowD)) fl t5 t6 (some (.list ((List.range h.n).map fun o => encW (h.acc o)))) (some (.list (xs.map encW))) t9 t10 t11 t12 t13 t14 t15 t16) := by
        intro w1 w2 t5 t6 t9 t10 t11 t12 t13 t14 t15 t16
        refine ⟨t5, t6, t9, t10, t11, t12, t13, t14, t15, t16, by rw [hfl], fun i a b => ?_, fun i hi => h2 i (by simp [hi])⟩
        by_cases e : i = k
        · subst e; rw [hlk]; exact ⟨w1, w2⟩
        · exact h1' i a b e
      rw [strE, hfl] at go
      rw [hfl] at hfn ⊢
      generalize hW : (PyData.list ((List.range h.n).map fun o => encW (h.acc o))) = WD at go ⊢
      have gW : ∀ o, o < h.n → ixD WD (.int (o : Int)) = some (encW (h.acc o)) := fun o ho => by rw [← hW]; exact gW o ho
      have itl : itemsD (rowD l) = some (l.map fun (k : Nat) => PyData.int (k : Int)) := rfl
      have itf : ∀ fl : List Nat, natsD fl = fl.map fun (k : Nat) => PyData.int (k : Int) := fun _ => rfl
      have f1 : fmM (turnE (Ph (n - 1)) [6] (.nm 6) true (.cmp .nin (.var 6) (.ix (.var 3) (.var 9))) (.var 6) (lbnEnv h c job (.list (ps.map rowD)) fl t5 t6 (some WD) (some (.list (xs.map encW))) (some (.int (k : Int))) t10 t11 t12 t13 t14 t15 t16)) (natsD fl) = some (natsD (fl.filter fun o => !l.contains o)) := by
        rw [← fm_row]
        refine fmM_map (e := fun (k : Nat) => PyData.int (k : Int)) (as := fl) _ fun o ho => ?_
        have i3 : inD (.int (o : Int)) (rowD l) = some (decide (o ∈ l)) := in_nats o l
        by_cases q : o ∈ l <;> simp -implicitDefEqProofs [turnE, lbnEnv, a1, i3, q]
      have hsn : ∀ o ∈ fl.filter fun o => !l.contains o, o < h.n := fun o ho => hfn o (List.mem_filter.mp ho).1
      generalize (fl.filter fun o => !l.contains o) = sgs at f1 hsn kk go
      have f2 : fmM (turnE (Ph (n - 1)) [6] (.nm 6) true (.cmp .ne (.lc [15] (.nm 15) (.ix (.var 3) (.var 9)) true (.call .frz "_law_meet" (.cons (.ix (.var 7) (.var 15)) (.cons (.ix (.var 7) (.var 6)) .nil))) (.var 15)) (.lst .nil)) (.var 6) (lbnEnv h c job (.list (ps.map rowD)) fl t5 t6 (some WD) (some (.list (xs.map encW))) (some (.int (k : Int))) (some (.list (natsD sgs))) t11 t12 t13 t14 t15 t16)) (natsD sgs) = some (natsD (sgs.filter fun o => l.any fun i => h.adj i o)) := by
        rw [← fm_row]
        refine fmM_map (e := fun (k : Nat) => PyData.int (k : Int)) (as := sgs) _ fun o ho => ?_
        have f3 : fmM (turnE (Ph (n - 1)) [15] (.nm 15) true (.call .frz "_law_meet" (.cons (.ix (.var 7) (.var 15)) (.cons (.ix (.var 7) (.var 6)) .nil))) (.var 15) (lbnEnv h c job (.list (ps.map rowD)) fl t5 (some (.int (o : Int))) (some WD) (some (.list (xs.map encW))) (some (.int (k : Int))) (some (.list (natsD sgs))) t11 t12 t13 t14 t15 t16)) (l.map fun (k : Nat) => PyData.int (k : Int)) = some (natsD (l.filter fun i => h.adj i o)) := by
          rw [← fm_row]
          refine fmM_map _ fun i hi => ?_
          have w1 := gW i (hlt i hi)
          have w2 := gW o (hsn o ho)
          have cm := c_law_meet (n := n - 1) (by omega) (h.acc i) (h.acc o)
          have cm : Ph (n - 1) (Str.ofString "_law_meet") [encW (h.acc i), encW (h.acc o)] = some (.bool (h.adj i o)) := cm
          cases q : h.adj i o <;> simp -implicitDefEqProofs [turnE, lbnEnv, w1, w2, cm, q]
        have e7 := ne_nil (okD_nats (l.filter fun i => h.adj i o))
        rw [any_empty] at e7
        generalize natsD (l.filter fun i => h.adj i o) = fm at f3 e7
        unfold lbnEnv at f3
        cases q : (l.any fun i => h.adj i o) <;> rw [q] at e7 <;> simp -implicitDefEqProofs [turnE, lbnEnv, a1, itl, f3, e7]
      have e8 := ne_nil (okD_nats (sgs.filter fun o => l.any fun i => h.adj i o))
      rw [any_empty] at e8
      have sa : (!sgs.any fun o => l.any fun i => h.adj i o) = sgs.all fun o => !l.any fun i => h.adj i o := by
        rw [Bool.eq_iff_iff]; simp
      rw [sa] at e8
      generalize (sgs.all fun o => !l.any fun i => h.adj i o) = sb at e8 kk go
      generalize sgs.filter (fun o => l.any fun i => h.adj i o) = bad at f2 e8
      have f4 : fmM (turnE (Ph (n - 1)) [16] (.nm 16) true (.cmp .ne (.lc [15] (.nm 15) (.ix (.var 3) (.var 9)) true (.call .frz "_law_meet" (.cons (.ix (.var 7) (.var 15)) (.cons (.var 16) .nil))) (.var 15)) (.lst .nil)) (.var 16) (lbnEnv h c job (.list (ps.map rowD)) fl t5 t6 (some WD) (some (.list (xs.map encW))) (some (.int (k : Int))) (some (.list (natsD sgs))) t11 t12 t13 t14 t15 t16)) (xs.map encW) = some (xs.filterMap fun x => if hitL h x l then some (encW x) else none) := by
        refine fmM_map _ fun x hx => ?_
        have f3 : fmM (turnE (Ph (n - 1)) [15] (.nm 15) true (.call .frz "_law_meet" (.cons (.ix (.var 7) (.var 15)) (.cons (.var 16) .nil))) (.var 15) (lbnEnv h c job (.list (ps.map rowD)) fl t5 t6 (some WD) (some (.list (xs.map encW))) (some (.int (k : Int))) (some (.list (natsD sgs))) t11 t12 t13 t14 t15 (some (encW x)))) (l.map fun (k : Nat) => PyData.int (k : Int)) = some (natsD (l.filter fun i => meet x (h.acc i))) := by
          rw [← fm_row]
          refine fmM_map _ fun i hi => ?_
          have w1 := gW i (hlt i hi)
          have cm := c_law_meet (n := n - 1) (by omega) (h.acc i) x
          rw [meet_comm] at cm
          cases q : meet x (h.acc i) <;> simp -implicitDefEqProofs [turnE, lbnEnv, w1, cm, q]
        have e7 := ne_nil (okD_nats (l.filter fun i => meet x (h.acc i)))
        rw [any_empty, show (l.any fun i => meet x (h.acc i)) = hitL h x l from rfl] at e7
        generalize natsD (l.filter fun i => meet x (h.acc i)) = fm at f3 e7
        unfold lbnEnv at f3
        cases q : hitL h x l <;> rw [q] at e7 <;> simp -implicitDefEqProofs [turnE, lbnEnv, a1, itl, f3, e7]
      have lenf := fm_len xs (fun x => hitL h x l) fun x => encW x
      generalize (xs.countP fun x => hitL h x l) = cnt at lenf kk go
      generalize (xs.filterMap fun x => if hitL h x l then some (encW x) else none) = fm2 at f4 lenf
      unfold lbnEnv at f1 f2 f4
      cases sb with
      | false =>
        simp -implicitDefEqProofs [lbnEnv, f1, f2, e8]
        exact judge_f (by simp) fun q => by have := (kk q).1; cases this
      | true =>
        by_cases q : cnt ≤ 1
        · have q' : ¬ (1 : Int) < (fm2.length : Int) := by omega
          have := go rfl q
          unfold lbnEnv at this
          simp -implicitDefEqProofs [lbnEnv, f1, f2, e8, f4, q']
          exact this ..
        · have q' : (1 : Int) < (fm2.length : Int) := by omega
          simp -implicitDefEqProofs [lbnEnv, f1, f2, e8, f4, q']
          exact judge_f (by simp) fun z => q (kk z).2
  · subst eρ
    have hx : x ∈ rows := by rw [h1]; simp
    have px := py x hx
    have no : (∀ l, x = rowD l → ¬ LawOk h.n job (pre ++ [l])) → ¬ RightP h c job (.list rows) := by
      intro q k
      rw [h1] at k
      obtain ⟨l, e, lk2⟩ := pre_right hj k
      exact q l e lk2
    by_cases isl : ∃ ys, x = .list ys
    case neg =>
      obtain ⟨n1, _⟩ := not_list (fun ys e => isl ⟨ys, e⟩) (pl_noD px)
      simp -implicitDefEqProofs [lbnEnv, n1]
      exact judge_f (by simp) (no fun l e => absurd ⟨_, e⟩ isl)
    obtain ⟨ys, rfl⟩ := isl
    obtain ⟨ly, py2⟩ := pl_items px
    have ne := ne_nil (pl_ok60 (by omega) px)
    by_cases qe : ys = []
    · subst qe
      simp -implicitDefEqProofs [lbnEnv, isL]
      exact judge_f (by simp) (no fun l e lk2 => by
        injection e with e
        have := nats_inj (a := []) (b := l) e
        subst this
        exact lk2.ne [] (by simp) rfl)
    have nec : eqD (.list ys) (.list []) = some false := by
      rw [ne]
      cases ys with
      | nil => exact absurd rfl qe
      | cons => rfl
    have key : ∀ l, ys = natsD l → dstB h.n job pre.flatten ys = true → LawOk h.n job (pre ++ [l]) := fun l e q => by
      rw [law_add lk]
      subst e
      exact ⟨fun z => qe (by rw [z]; rfl), q⟩
    have no2 : dstB h.n job pre.flatten ys = false → ¬ RightP h c job (.list rows) := fun q => no fun l e lk2 => by
      injection e with e
      have := ((law_add lk).mp lk2).2
      rw [e] at q
      have q : dstB h.n job pre.flatten (natsD l) = false := q
      rw [q] at this
      cases this
    have lf := law_few lk
    simp -implicitDefEqProofs [lbnEnv, isL, nec, Option.bind_assoc]
    refine goF_use (Z := okF _ _ _) (lb2 h c job rows ys pre) ⟨[], t6, t7, t8, t9, t10, t11, t12, t13, t14, t15, t16, by unfold lbnEnv; rw [List.append_nil], rfl, by rw [List.append_nil]⟩ (fun ρ ⟨m, t6, t7, t8, t9, t10, t11, t12, t13, t14, t15, t16, eρ, h2, h3⟩ => ?_) fun w rest2 ρ ⟨m, t6, t7, t8, t9, t10, t11, t12, t13, t14, t15, t16, eρ, h2, h3⟩ => ?_
    · subst eρ
      rw [List.append_nil] at h2
      have lk2 := key m h2 h3.symm
      have goal : ∀ t5 t6 t7 t8 t9 t10 t11 t12 t13 t14 t15 t16, lb1 h c job rows rest (lbnEnv h c job (.list rows) (pre ++ [m]).flatten t5 t6 t7 t8 t9 t10 t11 t12 t13 t14 t15 t16) := fun t5 t6 t7 t8 t9 t10 t11 t12 t13 t14 t15 t16 => ⟨pre ++ [m], t5, t6, t7, t8, t9, t10, t11, t12, t13, t14, t15, t16, rfl, by rw [h1, h2]; simp [rowD], lk2⟩
      have ef : (pre ++ [m]).flatten = pre.flatten ++ m := by simp
      rw [ef] at goal
      generalize pre.flatten ++ m = sn at goal ⊢
      unfold lbnEnv at goal
      simp -implicitDefEqProofs [lbnEnv]
      exact goal ..
    · subst eρ
      have hw : noD w = true := pl_noD (n := 3) (py2 w (by rw [h2]; simp))
      have ci := c_law_is_place (n := n - 1) (by omega) w hw h.n
      have lm : m.length ≤ 1000 := by
        have := congrArg List.length h2
        simp at this
        omega
      by_cases q4 : placeB h.n w = true
      · rw [q4] at ci
        obtain ⟨o, rfl, ho⟩ := placeB_ok q4
        rw [dstB_int] at h3
        by_cases q6 : o = job
        · subst q6
          have h3 : dstB h.n o pre.flatten ys = false := by rw [← h3]; simp
          have no3 := no2 h3
          generalize pre.flatten ++ m = sn at *
          simp -implicitDefEqProofs [lbnEnv, hjl, ci]
          exact judge_f (by simp) no3
        · have q6' : ¬ (o : Int) = (job : Int) := by omega
          have inn := in_nats o (pre.flatten ++ m)
          by_cases q7 : o ∈ pre.flatten ++ m
          · have h3 : dstB h.n job pre.flatten ys = false := by
              rw [← h3]
              have : (pre.flatten ++ m).contains o = true := List.contains_iff_mem.mpr q7
              rw [this]
              simp
            have no3 := no2 h3
            rw [decide_eq_true q7] at inn
            generalize pre.flatten ++ m = sn at *
            simp -implicitDefEqProofs [lbnEnv, hjl, ci, q6', inn]
            exact judge_f (by simp) no3
          · have hc2 : (pre.flatten ++ m).contains o = false := by
              rw [← Bool.not_eq_true]
              exact fun z => q7 (List.contains_iff_mem.mp z)
            rw [hc2] at h3
            have goal : ∀ t6 t7 t8 t9 t10 t11 t12 t13 t14 t15 t16, lb2 h c job rows ys pre rest2 (lbnEnv h c job (.list rows) (pre.flatten ++ (m ++ [o])) (some (.list ys)) t6 t7 t8 t9 t10 t11 t12 t13 t14 t15 t16) := fun t6 t7 t8 t9 t10 t11 t12 t13 t14 t15 t16 => ⟨m ++ [o], t6, t7, t8, t9, t10, t11, t12, t13, t14, t15, t16, rfl, by rw [h2, ← nats_add]; simp, by rw [← h3]; simp [ho, q6]⟩
            rw [← List.append_assoc] at goal
            rw [decide_eq_false q7] at inn
            have ls : (pre.flatten ++ m).length < 16777216 := by rw [List.length_append]; omega
            generalize pre.flatten ++ m = sn at *
            unfold lbnEnv at goal
            simp -implicitDefEqProofs [lbnEnv, hjl, ci, q6', inn, ls, nats_add, -nats_app]
            exact goal ..
      · rw [Bool.not_eq_true] at q4
        rw [q4] at ci
        rw [dstB_place q4] at h3
        have no3 := no2 h3.symm
        generalize pre.flatten ++ m = sn at *
        simp -implicitDefEqProofs [lbnEnv, hjl, ci]
        exact judge_f (by simp) no3
theorem c_law_is_right {n : Nat} (hn : 7 ≤ n) {h : House} (g : Good5 h) {c : List (List Nat)} (hc : Cuts h c) (v : D) (hv : plB 7 v = true) : Judge (Ph n ("_law_is_right" : Str) [encH h, cutsD c, v]) (RightV h c v) := by
  rw [run_eq (d := d_law_is_right) (by kernel_rfl) (by omega) _ rfl]
  have hjl : h.jobs.length = h.n := rfl
  have hn5 := g.n
  by_cases ist : ∃ ds, v = .tuple ds
  case neg =>
    refine judge_f ?_ fun k => ?_
    · have : isiD [.tuple] v = some (.bool false) := by
        cases v with
        | tuple ds => exact absurd ⟨ds, rfl⟩ ist
        | dict _ => simp [plB] at hv
        | _ => rfl
      simp -implicitDefEqProofs [d_law_is_right, this]
    · obtain ⟨_, e, _⟩ := k
      exact ist ⟨_, e⟩
  obtain ⟨ds, rfl⟩ := ist
  have isT : isiD [.tuple] (.tuple ds) = some (.bool true) := rfl
  by_cases q2 : ds.length = 2
  case neg =>
    have q2' : ¬ (ds.length : Int) = 2 := by omega
    refine judge_f (by simp -implicitDefEqProofs [d_law_is_right, isT, q2']) fun k => ?_
    obtain ⟨_, e, _⟩ := k
    injection e with e
    rw [e] at q2
    exact q2 rfl
  obtain ⟨t, x, rfl⟩ : ∃ t x, ds = [t, x] := by
    match ds, q2 with
    | [t, a], _ => exact ⟨t, a, rfl⟩
  have hp := (pl_tups hv).2
  have pt := hp t (by simp)
  have px := hp x (by simp)
  have st := c_same_str (n := n - 1) (by omega) t (pl_noD pt) (Str.ofString "right")
  by_cases q0 : isStrB (Str.ofString "right") t = true
  case neg =>
    rw [Bool.not_eq_true] at q0
    rw [q0] at st
    refine judge_f (by simp -implicitDefEqProofs [d_law_is_right, isT, st]) fun k => ?_
    obtain ⟨_, e, _⟩ := k
    injection e with e
    injection e with e1 _
    rw [e1] at q0
    simp [isStrB] at q0
  rw [q0] at st
  have et : t = .str (Str.ofString "right") := by
    cases t with
    | str s => simp [isStrB] at q0; rw [q0]
    | _ => cases q0
  by_cases isl : ∃ ys, x = .list ys
  case neg =>
    obtain ⟨n1, _⟩ := not_list (fun ys e => isl ⟨ys, e⟩) (pl_noD px)
    refine judge_f (by simp -implicitDefEqProofs [d_law_is_right, isT, st, n1]) ?_
    rintro ⟨rows, e, _⟩
    injection e with e
    injection e with _ e
    injection e with e _
    exact isl ⟨_, e⟩
  obtain ⟨rows, rfl⟩ := isl
  have isL : isiD [.list] (.list rows) = some (.bool true) := rfl
  have inv : RightV h c (.tuple [t, .list rows]) → rows.length = h.n ∧ ∀ j, j < h.n → RightP h c j (rows.getD j .none) := by
    rintro ⟨rows', e, k⟩
    injection e with e
    injection e with _ e
    injection e with e _
    injection e with e
    subst e
    exact k
  by_cases ql : rows.length = h.n
  case neg =>
    have ql' : ¬ (rows.length : Int) = (h.n : Int) := by omega
    exact judge_f (by simp -implicitDefEqProofs [d_law_is_right, isT, st, isL, hjl, ql']) fun k => ql (inv k).1
  have ql' : (rows.length : Int) = (h.n : Int) := by omega
  have pr := (pl_items px).2
  have each : ∀ j, j < h.n → Judge (Ph (n - 1) ("_law_is_bunches" : Str) [encH h, cutsD c, .int (j : Int), rows.getD j .none]) (RightP h c j (rows.getD j .none)) := fun j hj => by
    refine c_law_is_bunches (by omega) g hc hj _ ?_
    have hjr : j < rows.length := by omega
    rw [List.getD_eq_getElem?_getD, List.getElem?_eq_getElem hjr]
    exact pl_mono _ _ (pr _ (List.getElem_mem hjr))
  obtain ⟨f, hf⟩ : ∃ f : Nat → Bool, ∀ j, j < h.n → Ph (n - 1) ("_law_is_bunches" : Str) [encH h, cutsD c, .int (j : Int), rows.getD j .none] = some (.bool (f j)) ∧ (f j = true ↔ RightP h c j (rows.getD j .none)) := by
    refine ⟨fun j => if hj : j < h.n then (each j hj).choose else false, fun j hj => ?_⟩
    simp only [hj, dif_pos]
    exact (each j hj).choose_spec
  have e1 : fmM (turnE (Ph (n - 1)) [3] (.nm 3) true (.not (.call .frz "_law_is_bunches" (.cons (.var 0) (.cons (.var 1) (.cons (.var 3) (.cons (.ix (.ix (.var 2) (.int 1)) (.var 3)) .nil)))))) (.var 3) [some (encH h), some (cutsD c), some (.tuple [t, .list rows]), none]) ((List.range h.n).map fun (k : Nat) => PyData.int (k : Int)) = some (natsD ((List.range h.n).filter fun j => !f j)) := by
    rw [← fm_row]
    refine fmM_map _ fun j hj => ?_
    have hj : j < h.n := by simpa using hj
    have ar : atD rows (j : Int) = some (rows.getD j .none) := getD_at (by omega)
    have cf := (hf j hj).1
    generalize rows.getD j .none = row at ar cf
    cases q : f j <;> rw [q] at cf <;> simp -implicitDefEqProofs [turnE, ar, cf]
  have e7 := ne_nil (okD_nats ((List.range h.n).filter fun j => !f j))
  rw [any_empty] at e7
  have all : (!(List.range h.n).any fun j => !f j) = true ↔ ∀ j, j < h.n → f j = true := by simp
  generalize (!(List.range h.n).any fun j => !f j) = bb at e7 all
  generalize (List.range h.n).filter (fun j => !f j) = bad at e1 e7
  refine judge_b (b := bb) (by simp -implicitDefEqProofs [d_law_is_right, isT, st, isL, hjl, ql', rng_nat h.n (by omega), e1, e7]) ?_
  rw [all]
  constructor
  · intro q
    exact ⟨rows, by rw [et], ql, fun j hj => (hf j hj).2.mp (q j hj)⟩
  · intro k j hj
    exact (hf j hj).2.mpr ((inv k).2 j hj)
end Q
set_option autoImplicit false
set_option linter.all false
set_option maxRecDepth 100000
set_option maxHeartbeats 4000000
namespace Q
open PySem
def shB : D → Bool
  | .tuple ds => ds.all fun x => decide (lenD x ≤ 60)
  | _ => true
def vOk (v : D) : Prop := plB 7 v = true ∧ shB v = true
theorem vOk.sh {v : D} (h : vOk v) : ∀ ds, v = .tuple ds → ∀ x ∈ ds, lenD x ≤ 60 := by
  rintro ds rfl x hx
  simpa using List.all_eq_true.mp h.2 x hx
theorem vok_tup {ds : List D} (hl : ds.length ≤ 1000) (h : ∀ x ∈ ds, plB 6 x = true ∧ lenD x ≤ 60) : vOk (.tuple ds) := ⟨pl_tup hl fun x hx => (h x hx).1, List.all_eq_true.mpr fun x hx => by simpa using (h x hx).2⟩
theorem vok_list {ds : List D} (hl : ds.length ≤ 1000) (h : ∀ x ∈ ds, plB 6 x = true) : vOk (.list ds) := ⟨pl_list hl h, rfl⟩
def crT (v : D) : Prop := ∃ (a i b : Int) (row : List D), v = .tuple [.str (Str.ofString "crossed"), .int a, .int i, .int b, .list row] ∧ row.length ≤ 3 ∧ ∀ y ∈ row, plB 4 y = true
def cpI (h : House) (ns : List Nat) (rest : List Nat) (ρ : Env) : Prop := ∃ (l : List D) (t4 t5 t6 t7 t8 t9 t10 : Option D), ρ = [some (encH h), some (.list (natsD ns)), some (.list l), some (.int ((h.n : Int) + 1)), t4, t5, t6, t7, t8, t9, t10] ∧ (∀ v ∈ l, crT v) ∧ l.length + rest.length = 12 ∧ ∀ k ∈ rest, k < 12
theorem it5 (w a b c d : D) : itemsD (.tuple [w, a, b, c, d]) = some [w, a, b, c, d] := rfl
theorem c_law_crossed_papers {n : Nat} (hn : 2 ≤ n) {h : House} (g : Good5 h) {ns : List Nat} (d : Draws ns) : ∃ l, Ph n ("_law_crossed_papers" : Str) [encH h, .list (natsD ns)] = some (.list l) ∧ l.length ≤ 100 ∧ ∀ v ∈ l, vOk v := by
  rw [run_eq (d := d_law_crossed_papers) (by kernel_rfl) (by omega) _ rfl]
  have hjl : h.jobs.length = h.n := rfl
  have hn5 := g.n
  have r12 : rngD 0 12 = some ((List.range 12).map fun k => .int (k : Nat)) := rng_nat 12 (by omega)
  simp -implicitDefEqProofs [d_law_crossed_papers, hjl, r12, Option.bind_assoc]
  refine goF_map (Z := fun (o : Option D) => ∃ l, o = some (.list l) ∧ l.length ≤ 100 ∧ ∀ v ∈ l, vOk v) (as := List.range 12) (e := fun (k : Nat) => PyData.int (k : Int)) (cpI h ns)
    ⟨[], none, none, none, none, none, none, none, rfl, by simp, by simp, by simp⟩ (fun ρ ⟨l, t4, t5, t6, t7, t8, t9, t10, e, h1, h2, h3⟩ => ?_) fun k rest ρ ⟨l, t4, t5, t6, t7, t8, t9, t10, e, h1, h2, h3⟩ => ?_
  · subst e
    simp only [List.length_nil] at h2
    cases l with
    | nil => cases h2
    | cons v0 l =>
      obtain ⟨a, i, b, row, rfl, r1, r2⟩ := h1 v0 (by simp)
      obtain ⟨c1, c2⟩ := cut_sub row none (some 1)
      have s1 : slD none (some 1) (.list row) = some (.list (cutD row none (some 1))) := rfl
      generalize cutD row none (some 1) = cu at c1 c2 s1
      have b1 : binD .add (.list row) (.list [.int a]) = some (.list (row ++ [.int a])) := add_list _ _ (by show _ ≤ 16777216; simp; omega)
      have b2 : binD .add (.list row) (.list cu) = some (.list (row ++ cu)) := add_list _ _ (by show _ ≤ 16777216; omega)
      have b3 : ∀ xs ys : List D, xs.length ≤ 100 → ys.length ≤ 100 → binD .add (.list xs) (.list ys) = some (.list (xs ++ ys)) := fun xs ys h1 h2 => add_list _ _ (by show _ ≤ 16777216; omega)
      have l6 : ∀ a b c d e f : D, lstD [a, b, c, d, e, f] = some (.list [a, b, c, d, e, f]) := fun a b c d e f => lstD_ok (by simp)
      have t6' : ∀ a b c d e f : D, tupD [a, b, c, d, e, f] = some (.tuple [a, b, c, d, e, f]) := fun a b c d e f => tupD_ok (by simp)
      have pw : plB 6 (.str (Str.ofString "crossed")) = true ∧ lenD (.str (Str.ofString "crossed")) ≤ 60 := ⟨rfl, by simp [lenD]⟩
      have pw2 : plB 6 (.str (Str.ofString "Crossed")) = true ∧ lenD (.str (Str.ofString "Crossed")) ≤ 60 := ⟨rfl, by simp [lenD]⟩
      have pI : ∀ i : Int, plB 6 (.int i) = true ∧ lenD (.int i) ≤ 60 := fun i => ⟨rfl, by simp [lenD]⟩
      have pL : ∀ xs : List D, xs.length ≤ 6 → (∀ y ∈ xs, plB 5 y = true) → plB 6 (.list xs) = true ∧ lenD (.list xs) ≤ 60 := fun xs h1 h2 => ⟨pl_list (by omega) h2, by simp [lenD]; omega⟩
      have r2' : ∀ y ∈ row, plB 5 y = true := fun y hy => pl_mono _ _ (r2 y hy)
      have pT : ∀ ds : List D, ds.length ≤ 6 → (∀ x ∈ ds, plB 6 x = true ∧ lenD x ≤ 60) → vOk (.tuple ds) := fun ds h1 h2 => vok_tup (by omega) h2
      have p5 : ∀ a b c d e : D, (plB 6 a = true ∧ lenD a ≤ 60) → (plB 6 b = true ∧ lenD b ≤ 60) → (plB 6 c = true ∧ lenD c ≤ 60) → (plB 6 d = true ∧ lenD d ≤ 60) → (plB 6 e = true ∧ lenD e ≤ 60) → vOk (.tuple [a, b, c, d, e]) := fun a b c d e ha hb hc hd he => pT _ (by simp) fun x hx => by
        simp only [List.mem_cons, List.not_mem_nil, or_false] at hx
        rcases hx with rfl | rfl | rfl | rfl | rfl <;> assumption
      have pr := pL row (by omega) r2'
      have vl : ∀ v ∈ PyData.tuple [.str (Str.ofString "crossed"), .int a, .int i, .int b, .list row] :: l, vOk v := fun v hv => by
        obtain ⟨a', i', b', row', rfl, q1, q2⟩ := h1 v hv
        exact p5 _ _ _ _ _ pw (pI _) (pI _) (pI _) (pL row' (by omega) fun y hy => pl_mono _ _ (q2 y hy))
      have hl11 : l.length = 11 := by simpa using h2
      generalize hfl : PyData.tuple [.str (Str.ofString "crossed"), .int a, .int i, .int b, .list row] :: l = fl at vl
      have f0 : atD fl 0 = some (.tuple [.str (Str.ofString "crossed"), .int a, .int i, .int b, .list row]) := by rw [← hfl]; exact atD_0 _ _
      have lf : fl.length = 12 := by rw [← hfl]; simp [hl11]
      have pN : plB 6 .none = true ∧ lenD .none ≤ 60 := ⟨rfl, by simp [lenD]⟩
      have pB : ∀ b, plB 6 (.bool b) = true ∧ lenD (.bool b) ≤ 60 := fun b => ⟨rfl, by simp [lenD]⟩
      have pTr : plB 6 (.tuple row) = true ∧ lenD (.tuple row) ≤ 60 := ⟨pl_tup (by omega) r2', by simp [lenD]; omega⟩
      simp -implicitDefEqProofs [f0, s1, b1, b2, b3, l6, t6', lf, -List.append_assoc]
      intro v hv
      simp only [or_assoc] at hv
      rcases hv with hv | rfl | rfl | rfl | rfl | rfl | rfl | rfl | rfl | rfl | rfl | rfl | rfl | rfl | rfl | rfl | rfl | rfl
      · exact vl v hv
      · exact p5 _ _ _ _ _ pw (pI _) (pI _) (pI _) pr
      · exact p5 _ _ _ _ _ pw (pI _) (pI _) (pI _) pr
      · exact p5 _ _ _ _ _ pw (pI _) (pI _) (pI _) (pL [] (by simp) (by simp))
      · exact p5 _ _ _ _ _ pw (pI _) (pI _) (pI _) (pL _ (by simp; omega) (mem_app r2' (mem_one rfl)))
      · exact p5 _ _ _ _ _ pw (pI _) (pI _) (pI _) (pL _ (by simp; omega) (mem_app r2' fun x hx => r2' x (c2 x hx)))
      · exact p5 _ _ _ _ _ pw (pI _) (pI _) (pI _) pr
      · exact p5 _ _ _ _ _ pw (pI _) (pI _) (pI _) pr
      · exact p5 _ _ _ _ _ pw (pI _) (pI _) (pI _) pr
      · exact p5 _ _ _ _ _ pw (pI _) (pI _) (pI _) pTr
      · refine vok_list (by simp) fun x hx => ?_
        simp only [List.mem_cons, List.not_mem_nil, or_false] at hx
        rcases hx with rfl | rfl | rfl | rfl | rfl
        · rfl
        · rfl
        · rfl
        · rfl
        · exact pr.1
      · exact pT _ (by simp) fun x hx => by
          simp only [List.mem_cons, List.not_mem_nil, or_false] at hx
          rcases hx with rfl | rfl | rfl | rfl
          · exact pw
          · exact pI _
          · exact pI _
          · exact pI _
      · exact p5 _ _ _ _ _ pw2 (pI _) (pI _) (pI _) pr
      · exact p5 _ _ _ _ _ pw (pI _) (pB _) (pB _) pr
      · exact p5 _ _ _ _ _ pw (pI _) (pI _) (pI _) (pL _ (by simp) (mem_one rfl))
      · exact pT _ (by simp) fun x hx => by
          simp only [List.mem_cons, List.not_mem_nil, or_false] at hx
          rcases hx with rfl | rfl | rfl | rfl | rfl | rfl
          · exact pw
          · exact pI _
          · exact pI _
          · exact pI _
          · exact pr
          · exact pI _
      · exact p5 _ _ _ _ _ pw pN (pI _) (pI _) pr
      · exact p5 _ _ _ _ _ pw (pI _) (pI _) (pI _) (pL _ (by simp) (mem_one (pl_list (by omega) r2)))
  · subst e
    simp only [List.length_cons] at h2
    have hk := h3 k (by simp)
    have em := c_law_mixed (n := n - 1) (by omega) d (70 + k) (by omega)
    rw [Int.natCast_add] at em
    have em : Ph (n - 1) (Str.ofString "_law_mixed") [.list (natsD ns), .int (70 + (k : Int))] = some (.int (mixN ns (70 + k) : Nat)) := em
    generalize mixN ns (70 + k) = z at em
    obtain ⟨y8, d8⟩ := fd_ex z 8 (by omega) (by omega)
    obtain ⟨i, _, m4⟩ := md_ex y8 4 (by omega)
    obtain ⟨y32, d32⟩ := fd_ex z 32 (by omega) (by omega)
    obtain ⟨q3, hq3, m3⟩ := md_ex y32 3 (by omega)
    obtain ⟨y128, d128⟩ := fd_ex z 128 (by omega) (by omega)
    obtain ⟨jb, _, mj⟩ := md_ex y128 (h.n + 1) (by omega)
    have d1024 : ∃ q : Nat, binD .fdiv (.int (z : Int)) (.int 1024) = some (.int (q : Int)) := ⟨_, div_nat z 1024 (by omega) (by omega)⟩
    obtain ⟨y1024, d1024⟩ := d1024
    obtain ⟨i2, _, m42⟩ := md_ex y1024 4 (by omega)
    simp -implicitDefEqProofs at d8 m4 d32 m3 d128 mj m42
    have hrg : rngD 0 (1 + (q3 : Int)) = some ((List.range (1 + q3)).map fun k => .int (k : Nat)) := by
      have := rng_nat (1 + q3) (by omega)
      rw [Int.natCast_add] at this
      exact this
    obtain ⟨row, er, lr, pr⟩ := fm_each (f := turnE (Ph (n - 1)) [10] (.nm 10) false .non (.bin .mod (.call .frz "_law_mixed" (.cons (.var 1) (.cons (.bin .add (.bin .add (.int 80) (.bin .mul (.int 3) (.var 4))) (.var 10)) .nil))) (.var 3)) [some (encH h), some (.list (natsD ns)), some (.list l), some (.int ((h.n : Int) + 1)), some (.int (k : Int)), some (.int (z : Int)), some (.int (i : Int)), t7, t8, t9, t10]) (e := fun (k : Nat) => PyData.int (k : Int)) (P := fun y => plB 4 y = true) (as := List.range (1 + q3)) fun u hu => by
      have hu : u < 1 + q3 := by simpa using hu
      have em := c_law_mixed (n := n - 1) (by omega) d (80 + 3 * k + u) (by omega)
      rw [Int.natCast_add, Int.natCast_add] at em
      have em : Ph (n - 1) (Str.ofString "_law_mixed") [.list (natsD ns), .int (80 + ((3 * k : Nat) : Int) + (u : Int))] = some (.int (mixN ns (80 + 3 * k + u) : Nat)) := em
      generalize mixN ns (80 + 3 * k + u) = z2 at em
      have mk : binD .mul (.int 3) (.int (k : Int)) = some (.int ((3 * k : Nat) : Int)) := mul_nat 3 k (by omega)
      generalize 3 * k = k3 at em mk
      obtain ⟨w, _, mw⟩ := md_ex z2 (h.n + 1) (by omega)
      simp -implicitDefEqProofs at mw
      exact ⟨.int (w : Int), by simp -implicitDefEqProofs [turnE, mk, em, mw], rfl⟩
    rw [List.length_range] at lr
    have ll : l.length < 16777216 := by omega
    simp -implicitDefEqProofs [em, d8, m4, d32, m3, hrg, er, d128, mj, d1024, m42, ll]
    refine ⟨l ++ [.tuple [.str (Str.ofString "crossed"), .int (jb : Int), .int (i : Int), .int ((i : Int) + (i2 : Int)), .list row]], _, _, _, _, t8, t9, t10, rfl, fun v hv => ?_, by simp; omega, fun u hu => h3 u (by simp [hu])⟩
    rcases List.mem_append.mp hv with q | q
    · exact h1 v q
    · rw [List.mem_singleton.mp q]; exact ⟨_, _, _, row, rfl, by omega, pr⟩
end Q
set_option autoImplicit false
set_option linter.all false
set_option maxRecDepth 100000
set_option maxHeartbeats 4000000
namespace Q
open PySem
def bunD (x : D) : Prop := ∃ ps : List (List Nat), x = .list (ps.map rowD) ∧ ps.length ≤ 5 ∧ ∀ l ∈ ps, l.length ≤ 5
theorem bun_pl {n : Nat} {x : D} (h : bunD x) : plB (n + 3) x = true ∧ lenD x ≤ 60 := by
  obtain ⟨ps, rfl, h1, h2⟩ := h
  refine ⟨pl_list (by simp; omega) fun y hy => ?_, by simp [lenD]; omega⟩
  obtain ⟨l, hl, rfl⟩ := List.mem_map.mp hy
  exact pl_list (by have := h2 l hl; simp; omega) (pl_nats l)
def rpI (h : House) (ns : List Nat) (pp qq ss : List D) (B : Nat) (rest : List Nat) (ρ : Env) : Prop := ∃ (l : List D) (t6 t7 t8 t9 t10 t11 : Option D), ρ = [some (encH h), some (.list (natsD ns)), some (.list pp), some (.list qq), some (.list ss), some (.list l), t6, t7, t8, t9, t10, t11] ∧ (∀ v ∈ l, vOk v) ∧ l.length + 11 * rest.length ≤ B ∧ ∀ k ∈ rest, k < h.n
def rqI (h : House) (ns : List Nat) (pp qq ss : List D) (B : Nat) (u6 u7 u8 u9 u11 : Option D) (rest : List D) (ρ : Env) : Prop := ∃ (l : List D) (t10 : Option D), ρ = [some (encH h), some (.list (natsD ns)), some (.list pp), some (.list qq), some (.list ss), some (.list l), u6, u7, u8, u9, t10, u11] ∧ (∀ v ∈ l, vOk v) ∧ l.length + rest.length ≤ B ∧ ∀ x ∈ rest, plB 5 x = true
theorem c_law_right_papers {n : Nat} (hn : 6 ≤ n) {h : House} (g : Good5 h) {ns : List Nat} (d : Draws ns) : ∃ l, Ph n ("_law_right_papers" : Str) [encH h, .list (natsD ns)] = some (.list l) ∧ l.length ≤ 100 ∧ ∀ v ∈ l, vOk v := by
  rw [run_eq (d := d_law_right_papers) (by kernel_rfl) (by omega) _ rfl]
  have hjl : h.jobs.length = h.n := rfl
  have hn5 := g.n
  obtain ⟨pp, e1, l1, p1⟩ := fm_each (f := turnE (Ph (n - 1)) [6] (.nm 6) false .non (.call .frz "_law_bunches" (.cons (.var 0) (.cons (.var 6) .nil))) [some (encH h), some (.list (natsD ns)), none, none, none, none, none, none, none, none, none, none]) (e := fun (k : Nat) => PyData.int (k : Int)) (P := bunD) (as := List.range h.n) fun j hj => by
    have hj : j < h.n := by simpa using hj
    have cb := c_law_bunches (n := n - 1) (by omega) g hj
    rw [(graph_facts g hj).same] at cb
    have pk := (graph_facts g hj).part
    generalize parts h.adj (others h.n j) = ps at cb pk
    refine ⟨.list (ps.map rowD), by simp -implicitDefEqProofs [turnE, cb], ps, rfl, pk.few.2, fun l hl => ?_⟩
    have := pk.row l hl
    exact Nat.le_trans (asc_few this.2.1 this.2.2) hn5
  have fo : ∀ j : Nat, ∀ (ρ : Env), ρ.length = 12 → ρ[6]? = some (some (.int (j : Int))) → fmM (turnE (Ph (n - 1)) [10] (.nm 10) true (.cmp .ne (.var 10) (.var 6)) (.var 10) ρ) ((List.range h.n).map fun k => .int (k : Nat)) = some (natsD (others h.n j)) := fun j ρ hρ h6 => by
    unfold others
    rw [← fm_row]
    refine fmM_map _ fun i _ => ?_
    match ρ, hρ with
    | [a0, a1, a2, a3, a4, a5, a6, a7, a8, a9, a10, a11], _ =>
      have h6 : a6 = some (.int (j : Int)) := by simpa using h6
      subst h6
      by_cases q : i = j
      · simp -implicitDefEqProofs [turnE, q]
      · have q' : ¬ (i : Int) = (j : Int) := by omega
        simp -implicitDefEqProofs [turnE, q, q']
  obtain ⟨qq, e2, l2, p2⟩ := fm_each (f := turnE (Ph (n - 1)) [6] (.nm 6) false .non (.lst (.cons (.lc [10] (.nm 10) (.rng1 (.bi .len (.ix (.var 0) (.int 1)))) true (.cmp .ne (.var 10) (.var 6)) (.var 10)) .nil)) [some (encH h), some (.list (natsD ns)), some (.list pp), none, none, none, none, none, none, none, none, none]) (e := fun (k : Nat) => PyData.int (k : Int)) (P := bunD) (as := List.range h.n) fun j hj => by
    have f := fo j [some (encH h), some (.list (natsD ns)), some (.list pp), none, none, none, some (.int (j : Int)), none, none, none, none, none] rfl rfl
    refine ⟨.list ([others h.n j].map rowD), ?_, [others h.n j], rfl, by simp, fun l hl => ?_⟩
    · simp -implicitDefEqProofs [turnE, hjl, rng_nat h.n (by omega), f]
      rfl
    · rw [List.mem_singleton.mp hl]
      exact Nat.le_trans (others_len _ _) hn5
  have fs : ∀ j : Nat, ∀ (ρ : Env), ρ.length = 12 → ρ[6]? = some (some (.int (j : Int))) → fmM (turnE (Ph (n - 1)) [10] (.nm 10) true (.cmp .ne (.var 10) (.var 6)) (.lst (.cons (.var 10) .nil)) ρ) ((List.range h.n).map fun k => .int (k : Nat)) = some (((others h.n j).map fun o => [o]).map rowD) := fun j ρ hρ h6 => by
    have e : ((others h.n j).map fun o => [o]).map rowD = (List.range h.n).filterMap fun i => if decide (i ≠ j) then some (rowD [i]) else none := by
      unfold others
      rw [List.map_map]
      generalize List.range h.n = l
      induction l with
      | nil => rfl
      | cons a l ih => by_cases q : a = j <;> simp [q] at ih ⊢ <;> exact ih
    rw [e]
    refine fmM_map _ fun i _ => ?_
    match ρ, hρ with
    | [a0, a1, a2, a3, a4, a5, a6, a7, a8, a9, a10, a11], _ =>
      have h6 : a6 = some (.int (j : Int)) := by simpa using h6
      subst h6
      by_cases q : i = j
      · simp -implicitDefEqProofs [turnE, q]
      · have q' : ¬ (i : Int) = (j : Int) := by omega
        simp -implicitDefEqProofs [turnE, q, q', rowD]
  obtain ⟨ss, e3, l3, p3⟩ := fm_each (f := turnE (Ph (n - 1)) [6] (.nm 6) false .non (.lc [10] (.nm 10) (.rng1 (.bi .len (.ix (.var 0) (.int 1)))) true (.cmp .ne (.var 10) (.var 6)) (.lst (.cons (.var 10) .nil))) [some (encH h), some (.list (natsD ns)), some (.list pp), some (.list qq), none, none, none, none, none, none, none, none]) (e := fun (k : Nat) => PyData.int (k : Int)) (P := bunD) (as := List.range h.n) fun j hj => by
    have f := fs j [some (encH h), some (.list (natsD ns)), some (.list pp), some (.list qq), none, none, some (.int (j : Int)), none, none, none, none, none] rfl rfl
    refine ⟨.list (((others h.n j).map fun o => [o]).map rowD), ?_, _, rfl, by simp; exact Nat.le_trans (others_len _ _) hn5, fun l hl => ?_⟩
    · generalize ((others h.n j).map fun o => [o]).map rowD = r at f
      simp -implicitDefEqProofs [turnE, hjl, rng_nat h.n (by omega), f]
    · obtain ⟨o, _, rfl⟩ := List.mem_map.mp hl
      simp
  rw [List.length_range] at l1 l2 l3
  have s1 : slD none (some (-1)) (.list pp) = some (.list (cutD pp none (some (-1)))) := rfl
  obtain ⟨c1, c2⟩ := cut_sub pp none (some (-1))
  generalize cutD pp none (some (-1)) = cu at s1 c1 c2
  have a1 : binD .add (.list pp) (.list [.list []]) = some (.list (pp ++ [.list []])) := add_list _ _ (by show _ ≤ 16777216; simp; omega)
  have l8 : ∀ a b c d e f g h : D, lstD [a, b, c, d, e, f, g, h] = some (.list [a, b, c, d, e, f, g, h]) := fun a b c d e f g h => lstD_ok (by simp)
  simp -implicitDefEqProofs [d_law_right_papers, hjl, rng_nat h.n (by omega), e1, e2, e3, s1, a1, l8, Option.bind_assoc]
  have pS : plB 6 (.str (Str.ofString "right")) = true ∧ lenD (.str (Str.ofString "right")) ≤ 60 := ⟨rfl, by simp [lenD]⟩
  have pS2 : plB 6 (.str (Str.ofString "Right")) = true ∧ lenD (.str (Str.ofString "Right")) ≤ 60 := ⟨rfl, by simp [lenD]⟩
  have p2t : ∀ a b : D, (plB 6 a = true ∧ lenD a ≤ 60) → (plB 6 b = true ∧ lenD b ≤ 60) → vOk (.tuple [a, b]) := fun a b ha hb => vok_tup (by simp) fun x hx => by
    simp only [List.mem_cons, List.not_mem_nil, or_false] at hx
    rcases hx with rfl | rfl <;> assumption
  have pL : ∀ xs : List D, xs.length ≤ 20 → (∀ y ∈ xs, plB 5 y = true) → plB 6 (.list xs) = true ∧ lenD (.list xs) ≤ 60 := fun xs h1 h2 => ⟨pl_list (by omega) h2, by simp [lenD]; omega⟩
  have b5 : ∀ {xs : List D}, (∀ y ∈ xs, bunD y) → ∀ y ∈ xs, plB 5 y = true := fun hx y hy => (bun_pl (n := 2) (hx y hy)).1
  have ppl := pL pp (by omega) (b5 p1)
  refine goF_map (Z := fun (o : Option D) => ∃ l, o = some (.list l) ∧ l.length ≤ 100 ∧ ∀ v ∈ l, vOk v) (as := List.range h.n) (e := fun (k : Nat) => PyData.int (k : Int)) (rpI h ns pp qq ss 63)
    ⟨_, _, _, _, _, _, _, rfl, ?_, by simp; omega, by simp⟩ (fun ρ ⟨l, t6, t7, t8, t9, t10, t11, e, h1, h2, h3⟩ => ?_) fun j rest ρ ⟨l, t6, t7, t8, t9, t10, t11, e, h1, h2, h3⟩ => ?_
  · intro v hv
    simp only [List.mem_cons, List.not_mem_nil, or_false] at hv
    rcases hv with rfl | rfl | rfl | rfl | rfl | rfl | rfl | rfl
    · exact p2t _ _ pS ppl
    · exact p2t _ _ pS (pL qq (by omega) (b5 p2))
    · exact p2t _ _ pS (pL ss (by omega) (b5 p3))
    · exact p2t _ _ pS2 ppl
    · refine vok_list (by simp) fun x hx => ?_
      simp only [List.mem_cons, List.not_mem_nil, or_false] at hx
      rcases hx with rfl | rfl
      · rfl
      · exact ppl.1
    · exact p2t _ _ pS ⟨pl_tup (by omega) (b5 p1), by simp [lenD]; omega⟩
    · exact p2t _ _ pS (pL cu (by omega) fun x hx => b5 p1 x (c2 x hx))
    · exact p2t _ _ pS (pL _ (by simp; omega) (mem_app (b5 p1) (mem_one rfl)))
  · subst e
    simp -implicitDefEqProofs
    exact ⟨by simp at h2; omega, h1⟩
  · subst e
    have hj := h3 j (by simp)
    simp only [List.length_cons] at h2
    have em := c_law_mixed (n := n - 1) (by omega) d (60 + j) (by omega)
    rw [Int.natCast_add] at em
    have em : Ph (n - 1) (Str.ofString "_law_mixed") [.list (natsD ns), .int (60 + (j : Int))] = some (.int (mixN ns (60 + j) : Nat)) := em
    generalize mixN ns (60 + j) = z at em
    obtain ⟨p, hp, mp⟩ := md_ex z 2 (by omega)
    simp -implicitDefEqProofs at mp
    have aX : ∀ xs : List D, xs.length = h.n → atD xs (j : Int) = some (xs.getD j .none) := fun xs hx => getD_at (by omega)
    have mX : ∀ xs : List D, xs.length = h.n → xs.getD j .none ∈ xs := fun xs hx => by
      rw [List.getD_eq_getElem?_getD, List.getElem?_eq_getElem (by omega)]; exact List.getElem_mem (by omega)
    have ap := aX pp l1
    have aq := aX qq l2
    have as_ := aX ss l3
    have bp := p1 _ (mX pp l1)
    have bq := (bun_pl (n := 2) (p2 _ (mX qq l2))).1
    have bs_ := (bun_pl (n := 2) (p3 _ (mX ss l3))).1
    generalize pp.getD j .none = pj at ap bp
    generalize qq.getD j .none = qj at aq bq
    generalize ss.getD j .none = sj at as_ bs_
    obtain ⟨ps, rfl, k1, k2⟩ := bp
    have rps : ∀ x ∈ ps.map rowD, plB 4 x = true := fun x hx => by
      obtain ⟨l, hl, rfl⟩ := List.mem_map.mp hx
      exact pl_list (by have := k2 l hl; simp; omega) (pl_nats l)
    have itp : itemsD (.list (ps.map rowD)) = some (ps.map rowD) := rfl
    have g1 : fmM (turnE (Ph (n - 1)) [11] (.nm 11) false .non (.rev (.var 11)) [some (encH h), some (.list (natsD ns)), some (.list pp), some (.list qq), some (.list ss), some (.list l), some (.int (j : Int)), some (.int (z : Int)), some (.list (ps.map rowD)), t9, t10, t11]) (ps.map rowD) = some (ps.map fun l => .list (natsD l).reverse) := fmM_all _ fun l hl => by
      simp -implicitDefEqProofs [turnE, rowD, revD]
    have g2 : fmM (turnE (Ph (n - 1)) [11] (.nm 11) false .non (.bi .tuple (.var 11)) [some (encH h), some (.list (natsD ns)), some (.list pp), some (.list qq), some (.list ss), some (.list l), some (.int (j : Int)), some (.int (z : Int)), some (.list (ps.map rowD)), t9, t10, t11]) (ps.map rowD) = some (ps.map fun l => .tuple (natsD l)) := fmM_all _ fun l hl => by
      simp -implicitDefEqProofs [turnE, rowD]
    have w1 : ∀ x ∈ ps.map (fun l => PyData.list (natsD l).reverse), plB 4 x = true := fun x hx => by
      obtain ⟨l, hl, rfl⟩ := List.mem_map.mp hx
      exact pl_list (by have := k2 l hl; simp; omega) fun y hy => pl_nats l y (List.mem_reverse.mp hy)
    have w2 : ∀ x ∈ ps.map (fun l => PyData.tuple (natsD l)), plB 4 x = true := fun x hx => by
      obtain ⟨l, hl, rfl⟩ := List.mem_map.mp hx
      exact pl_tup (by have := k2 l hl; simp; omega) (pl_nats l)
    have lw1 : (ps.map (fun l => PyData.list (natsD l).reverse)).length = ps.length := by simp
    have lw2 : (ps.map (fun l => PyData.tuple (natsD l))).length = ps.length := by simp
    have lps : (ps.map rowD).length = ps.length := by simp
    generalize ps.map (fun l => PyData.list (natsD l).reverse) = y1 at g1 w1 lw1
    generalize ps.map (fun l => PyData.tuple (natsD l)) = y2 at g2 w2 lw2
    generalize ps.map rowD = row at *
    have rv : revD (.list row) = some (.list row.reverse) := rfl
    have b1 : ∀ xs ys : List D, xs.length ≤ 100 → ys.length ≤ 100 → binD .add (.list xs) (.list ys) = some (.list (xs ++ ys)) := fun xs ys h1 h2 => add_list _ _ (by show _ ≤ 16777216; omega)
    have lr : row.length ≤ 5 := by omega
    have lr' : row.length ≤ 100 := by omega
    obtain ⟨m1, m2⟩ := cut_sub row (some 1) none
    have sl1 : slD (some 1) none (.list row) = some (.list (cutD row (some 1) none)) := rfl
    generalize cutD row (some 1) none = cA at m1 m2 sl1
    obtain ⟨m3, m4⟩ := cut_sub row none (some 1)
    have sl2 : slD none (some 1) (.list row) = some (.list (cutD row none (some 1))) := rfl
    generalize cutD row none (some 1) = cB at m3 m4 sl2
    have lB : cB.length ≤ 100 := by omega
    have l11 : ∀ a b c d e f g h i j k : D, lstD [a, b, c, d, e, f, g, h, i, j, k] = some (.list [a, b, c, d, e, f, g, h, i, j, k]) := fun a b c d e f g h i j k => lstD_ok (by simp)
    have st : ∀ xs : List D, st2D (p : Int) (.list xs) = some (.list (evens (xs.drop p))) := fun xs => by
      show gate (decide (0 ≤ (p : Int))) _ = _
      unfold gate
      rw [if_pos (by simp)]
      simp
    have tr : biD .tuple (.list row) = some (.tuple row) := rfl
    simp -implicitDefEqProofs [em, mp, ap, aq, as_, rv, g1, g2, itp, b1, lr', lB, sl1, sl2, l11, st, Option.bind_assoc]
    refine goF_use (Z := okF _ _ _) (rqI h ns pp qq ss (l.length + 11) _ _ _ _ _) ⟨l, t10, rfl, h1, ?_, ?_⟩ (fun ρ ⟨l, t10, e, h1, h2, h4⟩ => ?_) fun y rest2 ρ ⟨l, t10, e, h1, h2, h4⟩ => ?_
    · refine Nat.add_le_add_left (Nat.le_trans (evens_sub _).1 ?_) _
      rw [List.length_drop]
      exact Nat.sub_le _ _
    · intro y hy
      have hy := List.mem_of_mem_drop ((evens_sub _).2 y hy)
      simp only [List.mem_cons, List.not_mem_nil, or_false] at hy
      rcases hy with rfl | rfl | rfl | rfl | rfl | rfl | rfl | rfl | rfl | rfl | rfl
      · exact pl_list (by simp; omega) fun x hx => rps x (List.mem_reverse.mp hx)
      · exact pl_list (by omega) w1
      · exact pl_list (by simp; omega) (mem_app rps (mem_one rfl))
      · exact pl_list (by omega) fun x hx => rps x (m2 x hx)
      · exact pl_list (by simp; omega) (mem_app rps fun x hx => rps x (m4 x hx))
      · exact pl_list (by simp; omega) (mem_app rps (mem_one rfl))
      · exact pl_list (by omega) w2
      · exact pl_tup (by omega) rps
      · rfl
      · exact bq
      · exact bs_
    · subst e
      simp -implicitDefEqProofs
      exact ⟨l, _, _, _, _, _, _, rfl, h1, by simp at h2; omega, fun k hk => h3 k (by simp [hk])⟩
    · subst e
      simp only [List.length_cons] at h2
      obtain ⟨v1, v2⟩ := cut_sub pp none (some (j : Int))
      obtain ⟨v3, v4⟩ := cut_sub pp (some ((j : Int) + 1)) none
      have s2 : slD none (some (j : Int)) (.list pp) = some (.list (cutD pp none (some (j : Int)))) := rfl
      have s3 : slD (some ((j : Int) + 1)) none (.list pp) = some (.list (cutD pp (some ((j : Int) + 1)) none)) := rfl
      generalize cutD pp none (some (j : Int)) = u at v1 v2 s2
      generalize cutD pp (some ((j : Int) + 1)) none = w at v3 v4 s3
      have b1 : binD .add (.list u) (.list [y]) = some (.list (u ++ [y])) := add_list _ _ (by show _ ≤ 16777216; simp; omega)
      have b2 : binD .add (.list (u ++ [y])) (.list w) = some (.list (u ++ [y] ++ w)) := add_list _ _ (by show _ ≤ 16777216; simp; omega)
      have hS : l.length < 16777216 := by omega
      simp -implicitDefEqProofs [s2, s3, b1, b2, hS, -List.append_assoc]
      refine ⟨l ++ [.tuple [.str (Str.ofString "right"), .list (u ++ [y] ++ w)]], _, rfl, ?_, by simp; omega, fun x hx => h4 x (by simp [hx])⟩
      intro v hv
      rcases List.mem_append.mp hv with q | q
      · exact h1 v q
      · rw [List.mem_singleton.mp q]
        exact p2t _ _ pS (pL _ (by simp; omega) (mem_app (mem_app (fun x hx => b5 p1 x (v2 x hx)) (mem_one (h4 y (by simp)))) fun x hx => b5 p1 x (v4 x hx)))
end Q
set_option autoImplicit false
set_option linter.all false
set_option maxRecDepth 100000
set_option maxHeartbeats 4000000
namespace Q
open PySem
theorem judge_eq {o o' : Option D} {P : Prop} (a : Judge o P) (b : Judge o' P) : ∃ x, o = some (.bool x) ∧ o' = some (.bool x) ∧ (x = true ↔ P) := by
  obtain ⟨x, rfl, hx⟩ := a
  obtain ⟨y, rfl, hy⟩ := b
  refine ⟨x, rfl, ?_, hx⟩
  have : x = y := by rw [Bool.eq_iff_iff, hx, hy]
  rw [this]
theorem judge_is {o : Option D} {P : Prop} (a : Judge o P) {b : Bool} (h : b = true ↔ P) : o = some (.bool b) := by
  obtain ⟨x, rfl, hx⟩ := a
  have : x = b := by rw [Bool.eq_iff_iff, hx, h]
  rw [this]
theorem crossW_F {h : House} {c : List (List Nat)} {j : Nat} (hj : j < h.n) {d : D} (w : CrossW h j (xsOf h c j) d) : ∃ (i k : Nat) (l : List Nat), d = .tuple [.str ("crossed" : Str), .int (j : Int), .int (i : Int), .int (k : Int), rowD l] ∧ CrossF h c j i k l := by
  obtain ⟨i, k, l, rfl, h1, h2, cl⟩ := w
  exact ⟨i, k, l, rfl, hj, h2, h1, cl.ne, fun o ho => others_mem.mp (cl.pth.sub o ho), cl.pth.nd, cl.pth.ch, cl.pth.hd, cl.end_⟩
theorem ne_str2 : ¬ (Str.ofString "right" = Str.ofString "crossed") := by decide +kernel
theorem ne_str : ¬ (Str.ofString "crossed" = Str.ofString "right") := by decide +kernel
theorem paper_facts {h : House} (g : Good5 h) {c : List (List Nat)} (hc : Cuts h c) {d : D} (p : paperOk h c d) : vOk d ∧ (crossAll h c = true ↔ CrossV h c d) ∧ ((!crossAll h c) = true ↔ RightV h c d) := by
  have hn5 := g.n
  have pS : ∀ s : Str, plB 6 (.str s) = true ∧ lenD (.str s) ≤ 60 := fun s => ⟨rfl, by simp [lenD]⟩
  have pI : ∀ i : Int, plB 6 (.int i) = true ∧ lenD (.int i) ≤ 60 := fun i => ⟨rfl, by simp [lenD]⟩
  rcases p with ⟨h1, rfl⟩ | ⟨j, hj, h2, _, w⟩
  · have ca := crossAll_f.mpr h1
    rw [ca]
    refine ⟨?_, ⟨nofun, ?_⟩, ⟨fun _ => ?_, fun _ => rfl⟩⟩
    · refine vok_tup (by simp) fun x hx => ?_
      simp only [List.mem_cons, List.not_mem_nil, or_false] at hx
      rcases hx with rfl | rfl
      · exact pS _
      · refine ⟨pl_list (by simp; omega) fun y hy => ?_, by simp [lenD]; omega⟩
        obtain ⟨j, hj, rfl⟩ := List.mem_map.mp hy
        have hj : j < h.n := by simpa using hj
        have pk := (graph_facts g hj).part
        exact (bun_pl (n := 2) ⟨_, rfl, pk.few.2, fun l hl => Nat.le_trans (asc_few (pk.row l hl).2.1 (pk.row l hl).2.2) hn5⟩).1
    · rintro ⟨_, _, _, _, e, _⟩
      injection e with e
      injection e with e1 _
      injection e1 with e1
      exact absurd e1 ne_str2
    · refine ⟨_, rfl, by simp, fun j hj => ?_⟩
      have e : ((List.range h.n).map fun j => PyData.list ((parts h.adj (others h.n j)).map rowD)).getD j .none = .list ((parts h.adj (others h.n j)).map rowD) := by
        rw [List.getD_eq_getElem?_getD, List.getElem?_map, List.getElem?_range hj]; rfl
      rw [e]
      exact ⟨_, rfl, right_ok g hj (h1 j hj)⟩
  · have ca : crossAll h c = true := by
      cases q : crossAll h c with
      | true => rfl
      | false => rw [crossAll_f.mp q j hj] at h2; cases h2
    rw [ca]
    obtain ⟨i, k, l, rfl, f⟩ := crossW_F hj w
    have ll : l.length ≤ 5 := by
      have := L2.nat_nodup_len l (List.range h.n) f.nd fun o ho => List.mem_range.mpr (f.inn o ho).1
      rw [List.length_range] at this
      omega
    refine ⟨?_, ⟨fun _ => ⟨j, i, k, l, rfl, f⟩, fun _ => rfl⟩, ⟨nofun, ?_⟩⟩
    · refine vok_tup (by simp) fun x hx => ?_
      simp only [List.mem_cons, List.not_mem_nil, or_false] at hx
      rcases hx with rfl | rfl | rfl | rfl | rfl
      · exact pS _
      · exact pI _
      · exact pI _
      · exact pI _
      · exact ⟨pl_list (by simp; omega) (pl_nats l), by simp [lenD, rowD]; omega⟩
    · rintro ⟨_, e, _⟩
      injection e with e
      injection e with _ e
      injection e with e _
      cases e
theorem odd_vok : ∀ v ∈ oddL, vOk v := by
  have h1 : oddL.all (plB 7) = true := by decide +kernel
  have h2 : oddL.all shB = true := by decide +kernel
  exact fun v hv => ⟨List.all_eq_true.mp h1 v hv, List.all_eq_true.mp h2 v hv⟩
def k81I (ns : List Int) (ds : List Nat) (h : House) (C : List (List Nat)) (d : D) (rest : List D) (ρ : Env) : Prop := ∃ (a b c e : Option D), ρ = [some (scrD ns), some (.list (natsD ds)), some (encH h), some (cutsD C), some (cutsD C), some d, a, b, c, e] ∧ ∀ v ∈ rest, vOk v
theorem law_ok (ns : List Int) (hl : ns.length ≤ 63) : lawF [scrD ns] = some (.bool true) := by
  show Ph 61 ("law" : Str) [scrD ns] = _
  rw [run_eq (d := d_law) (by kernel_rfl) (by omega) _ rfl]
  show ((exB (Ph 60) 60 _ _).bind endR) = _
  obtain ⟨ds, ed, dr⟩ := c_law_draws (n := 60) (by omega) ns hl
  obtain ⟨h, eh, g⟩ := c_law_plain_house (n := 60) (by omega) dr 0 (by omega)
  have hz : Ph 60 (Str.ofString "_law_plain_house") [.list (natsD ds), .int 0] = some (encH h) := eh
  have eC := c_law_cuts (n := 60) (by omega) g dr 60 (by omega)
  have C1 := draw_cuts g ds 60
  generalize drawCuts ds 60 h = C at eC C1
  have hC : Ph 60 (Str.ofString "_law_cuts") [.list (natsD ds), .int 60, encH h] = some (cutsD C) := eC
  obtain ⟨pC, _⟩ := pl_cuts g C1
  have ecC := c_copy 7 60 (by omega) _ pC
  have eqC := eqD_self (pl_ok60 (by omega) pC)
  obtain ⟨d, ep, pk⟩ := c_cuts_paper (n := 60) (by omega) g C1
  have ix0 := paper_ix0 pk
  obtain ⟨vd, fc, fr⟩ := paper_facts g C1 pk
  have j1 := judge_is (c_shows_crossed (n := 60) (by omega) g C1 d vd.1 vd.sh) fc
  have j2 := judge_is (c_shows_right_any (n := 60) (by omega) g C1 d vd.1) fr
  have q1 : eqD (.str (if crossAll h C then (Str.ofString "crossed") else (Str.ofString "right"))) (.str (Str.ofString "crossed")) = some (crossAll h C) := by
    cases crossAll h C <;> simp [ne_str2]
  have q2 : eqD (.str (if crossAll h C then (Str.ofString "crossed") else (Str.ofString "right"))) (.str (Str.ofString "right")) = some (!crossAll h C) := by
    cases crossAll h C <;> simp [ne_str]
  have sb := fun b => c_same 7 60 (by omega) (.bool b) rfl
  obtain ⟨l1, e1, n1, v1⟩ := c_law_crossed_papers (n := 60) (by omega) g dr
  obtain ⟨l2, e2, n2, v2⟩ := c_law_right_papers (n := 60) (by omega) g dr
  have eo := c_law_odd (n := 60) (by omega)
  have b1 : binD .add (.list [d]) (.list l1) = some (.list (d :: l1)) := add_list _ _ (by show _ ≤ 16777216; simp; omega)
  have b2 : binD .add (.list (d :: l1)) (.list l2) = some (.list (d :: l1 ++ l2)) := add_list _ _ (by show _ ≤ 16777216; simp; omega)
  have b3 : binD .add (.list (d :: l1 ++ l2)) (.list oddL) = some (.list (d :: l1 ++ l2 ++ oddL)) := add_list _ _ (by
    have : oddL.length = 20 := rfl
    show _ ≤ 16777216; simp; omega)
  have all : ∀ v ∈ d :: l1 ++ l2 ++ oddL, vOk v := by
    refine mem_app (mem_app (fun v hv => ?_) v2) odd_vok
    rcases List.mem_cons.mp hv with e | e
    · rw [e]; exact vd
    · exact v1 v e
  generalize hvs : d :: l1 ++ l2 ++ oddL = vs at b3 all
  generalize (d :: l1 ++ l2) = vv at b2 b3
  simp -implicitDefEqProofs [d_law, ed, hz, hC, ecC, ep, ix0, j1, j2, q1, q2, sb, e1, e2, eo, b1, b2, b3, Option.bind_assoc]
  refine goF_use (Z := fun (o : Option D) => o = some (.bool true)) (k81I ns ds h C d) ⟨none, none, none, none, rfl, all⟩ (fun ρ ⟨a, b, c, e, eρ, _⟩ => ?_) fun v rest ρ ⟨a, b, c, e, eρ, hr⟩ => ?_
  · subst eρ
    simp
  · subst eρ
    have vv := hr v (by simp)
    obtain ⟨x, x1, x2, _⟩ := judge_eq (c_shows_crossed (n := 60) (by omega) g C1 v vv.1 vv.sh) (c_law_is_crossed (n := 60) (by omega) g C1 v vv.1)
    obtain ⟨y, y1, y2, _⟩ := judge_eq (c_shows_right_any (n := 60) (by omega) g C1 v vv.1) (c_law_is_right (n := 60) (by omega) g C1 v vv.1)
    have cv := c_copy 7 60 (by omega) v vv.1
    have sv := c_same 7 60 (by omega) v vv.1
    simp -implicitDefEqProofs [cv, x1, x2, y1, y2, sb, sv, eqC]
    exact ⟨_, _, _, _, rfl, fun w hw => hr w (by simp [hw])⟩
end Q
set_option autoImplicit false
set_option linter.all false
set_option maxRecDepth 100000
set_option maxHeartbeats 0
namespace Q
open PySem PySem.Spec PyProof.Rows L2
def topB : List Stmt := PySem.Challenge.pw_ledgerhouse_k81_judges_of_cuts.main.body
def hfn : List He.DefD := topB.filterMap dOf
def hfa : List He.Fa := hfn.map (fun d => He.Fa.glo d.name) ++ bltL.map He.Fa.free
theorem tab_ok : okTab (topB.filterMap dOf) tab = true := by decide +kernel
def looseN : List Str := (hfn.map (·.name)).filter fun x => !decide (x = ("law" : Str))
abbrev hrow : PySem.W.OpenRow := PySem.W.OpenLaw.row PySem.Challenge.rw_ledgerhouse_k81_judges_of_cuts
abbrev hhk : PySem.W.Hook := He.hookD 4 hfa hfn
def hob (s : PySem.W.SharedT) : He.AlD := He.obsDG 4 hfa hfn (HandSHeadRun.getT s)
theorem hob_eq (s : PySem.W.SharedT) : hob s = hhk.obs s.abs := He.obsDG_eq (HandSHeadRun.getT_eq s)
theorem hrun (w : World) : HandSHeadRun.RunEq hrow (PySem.W.view hrow.prog [61]) hhk hob 3080 looseN w := by
  intro os
  kernel_rfl
theorem law_dl : lk tab ("law" : Str) = some d_law := by kernel_rfl
end Q
open PySem PySem.W PySem.Calls PyProof.Rows
theorem Q.holds_of (hlaw : ∀ ns : List Int, ns.length ≤ 63 → Q.lawF [Q.scrD ns] = some (.bool true)) : PySem.Challenge.rw_ledgerhouse_k81_judges_of_cuts.Holds := by
  w_on; o_law
  refine HandSHeadRun.head_any (r := OpenLaw.row PySem.Challenge.rw_ledgerhouse_k81_judges_of_cuts) (q := view (OpenLaw.row PySem.Challenge.rw_ledgerhouse_k81_judges_of_cuts).prog [61]) (H := Q.hhk) (ob := Q.hob) (M := 3080) (loose := Q.looseN) (d := HandSHeadRun.topDef (OpenLaw.row PySem.Challenge.rw_ledgerhouse_k81_judges_of_cuts).prog 61) (kwd := []) Q.hob_eq
    (by kernel_rfl) (fun s => by kernel_rfl) Q.hrun (by kernel_rfl) (by kernel_rfl) (by kernel_rfl) (by rfl) (by first | assumption | decide +kernel) (by decide +kernel) ⟨rfl, rfl, rfl, rfl, rfl, by decide +kernel⟩ ?hw ?hc
  case hw => w_witness2
  case hc =>
    refine L2.walk_ofE (l := PySem.Challenge.rw_ledgerhouse_k81_judges_of_cuts) (n := 63) (k := 60 + 1) (x := "script") (CX := L2.CX0) rfl (by decide) (by kernel_rfl) ⟨rfl, by decide, by decide⟩ ?F (fun _ _ _ _ z => z)
    intro w mg fa h Y G hmg0
    obtain ⟨K, KX, c⟩ := Y
    have hmg : mg ("law" : PySem.Str) = some (.ref fa) := by
      have e : (HandSHeadRun.topDef (OpenLaw.row PySem.Challenge.rw_ledgerhouse_k81_judges_of_cuts).prog 61).name = ("law" : PySem.Str) := by kernel_rfl
      rw [← e]
      exact hmg0
    obtain ⟨fd, hb, hsp, hF⟩ := Q.law_facts (P := (PySem.Challenge.rw_ledgerhouse_k81_judges_of_cuts).prog) (w := w) (W := 60) (n := 60) (dl := Q.d_law) Q.tab_ok Q.law_dl (by decide +kernel) rfl rfl KX G hmg c hlaw
    exact ⟨K, fd, _, KX, hb, hsp, hF⟩
theorem PySem.Challenge.cw_ledgerhouse_k81_judges_of_cuts_holds : PySem.Challenge.rw_ledgerhouse_k81_judges_of_cuts.Holds := by
  exact Q.holds_of fun ns hl => Q.law_ok ns hl
