import PyProof.Rows.All
import KE.KItemsList
import KE.KDictOf
import OpenK.KCall
import OpenK.AllK
import Wide.All
import Wide.FinOn
import PySem.Challenge.RW_sx_ycinder_1
set_option Elab.async false
set_option maxRecDepth 100000
set_option maxHeartbeats 8000000
set_option genSizeOfSpec false
local macro_rules
  | `(tactic| obtain $pat:rcasesPatMed := $e:term) => `(tactic| first
    | (refine Classical.byContradiction fun hn => ?_; rcases ($e:term) with $pat:rcasesPatMed <;> (refine hn ?_; clear hn))
    | rcases ($e:term) with $pat:rcasesPatMed)
local macro_rules
  | `(tactic| rcases $e:ident with $pat:rcasesPatLo) => `(tactic| first
    | (refine Classical.byContradiction fun hn => ?_; rcases ($e:ident) with $pat:rcasesPatLo <;> (refine hn ?_; clear hn))
    | rcases ($e:ident) with $pat:rcasesPatLo)
local macro_rules
  | `(tactic| cases $e:ident) => `(tactic| first
    | (refine Classical.byContradiction fun hn => ?_; cases ($e:ident) <;> (refine hn ?_; clear hn))
    | cases ($e:ident))
local macro_rules
  | `(tactic| omega) => `(tactic| first | lia | (omega +splitNatSub))

-- M1
namespace Mine
open PySem

inductive BinO where
  | add | sub | mul | fdiv | mod
  deriving DecidableEq
inductive CmpO where
  | eq | ne | lt | le | gt | ge | isin | notin
  deriving DecidableEq
inductive Exk where
  | value | oom
  deriving DecidableEq

inductive R (α : Type) where
  | ok (a : α)
  | exc (k : Exk)
  | stuck

noncomputable def R.bind {α β : Type} (x : R α) (f : α → R β) : R β :=
  match x with
  | .ok a => f a
  | .exc k => .exc k
  | .stuck => .stuck

set_option genInjectivity false
inductive E where
  | none
  | bool (b : Bool)
  | int (i : Int)
  | str (s : Str)
  | var (i : Nat)
  | own (i : Nat)
  | it3 (i : Nat)
  | cv
  | gl (k : Nat)
  | bin (o : BinO) (l r : E)
  | neg (e : E)
  | not (e : E)
  | cmp (o : CmpO) (l r : E)
  | isC (p : Bool) (e c : E)
  | isT (p : Bool) (e : E) (T : String)
  | bop (isAnd : Bool) (l r : E)
  | ite (c a b : E)
  | call (f : Nat) (args : List E)
  | len (e : E)
  | abs (e : E)
  | min2 (a b : E)
  | sum (e : E)
  | lcopy (e : E)
  | mkdict (e : E)
  | litems (e : E)
  | sorted (e : E)
  | text (e : E)
  | range (e : E)
  | values (e : E)
  | idx (a i : E)
  | sl (a lo hi : E)
  | slTo (a hi : E)
  | slFrom (a lo : E)
  | tup (es : List E)
  | lst (es : List E)
  | dict0
  | comp (elt src : E)
  | compIf (elt cond src : E)
  | dcomp (k v src : E)
  | gen (f : String) (elt src : E)

inductive S where
  | assign (i : Nat) (e : E)
  | assignO (i : Nat) (e : E)
  | assignT (is : List Nat) (e : E)
  | setItem (x : Nat) (i e : E)
  | append (x : Nat) (e : E)
  | drop (e : E)
  | ife (c : E) (a b : List S)
  | for1 (x : Nat) (src : E) (body : List S)
  | forT (xs : List Nat) (src : E) (body : List S)
  | whil (c : E) (body : List S)
  | ret (e : E)
  | raise (k : Exk) (e : E)
  | tryc (body : List S) (k : Exk) (x : Nat) (c : E)
  | frz (x : Nat)
  | fwd (st nw fo to : Nat) (f : Nat) (args : List E)
  | retF (nw fo : Nat) (a b : E)

set_option genInjectivity true
inductive VA where
  | un
  | v (d : PyData)
  | own (ds : List PyData)
  | i3 (i : Int)

abbrev Rho := List VA

noncomputable def LIM : Nat := 1048576

noncomputable def getV (ρ : Rho) (i : Nat) : R PyData := match ρ[i]? with
  | some (.v d) => .ok d
  | _ => .stuck
noncomputable def getOwn (ρ : Rho) (i : Nat) : R PyData := match ρ[i]? with
  | some (.own ds) => .ok (.list ds)
  | _ => .stuck
noncomputable def getI3 (ρ : Rho) (i : Nat) : R PyData := match ρ[i]? with
  | some (.i3 k) => .ok (.int k)
  | _ => .stuck

noncomputable def sm (ρ : Rho) (e : E) (r : R PyData) : R PyData := match e with
  | .own i => getOwn ρ i
  | _ => r

noncomputable def addD : PyData → PyData → R PyData
  | .int a, .int b => .ok (.int (a + b))
  | .list x, .list y => if x.length + y.length ≤ LIM then .ok (.list (x ++ y)) else .stuck
  | .str a, .str b => if a.length + b.length ≤ LIM then .ok (.str (a ++ b)) else .stuck
  | _, _ => .stuck
noncomputable def intO (f : Int → Int → R PyData) : PyData → PyData → R PyData
  | .int a, .int b => f a b
  | _, _ => .stuck
noncomputable def mulD : PyData → PyData → R PyData
  | .int a, .int b => if a.natAbs < 4611686018427387904 then .ok (.int (a * b)) else .stuck
  | .list xs, .int n => (match xs with
    | [x] => if -1048576 ≤ n ∧ n ≤ 1048576 then .ok (.list (List.replicate n.toNat x)) else .stuck
    | _ => .stuck)
  | _, _ => .stuck
noncomputable def binD : BinO → PyData → PyData → R PyData
  | .add => addD
  | .sub => intO fun a b => .ok (.int (a - b))
  | .mul => mulD
  | .fdiv => intO fun a b => if 0 < b ∧ b < 1073741824 then .ok (.int (a / b)) else .stuck
  | .mod => intO fun a b => if 0 < b ∧ b < 1073741824 then .ok (.int (a % b)) else .stuck

noncomputable def inO (q : Bool) (d : PyData) : PyData → R PyData
  | .list xs => if SeqAt.shaped (.list xs) && SeqAt.shaped d then .ok (.bool ((xs.any fun y => PyData.eqv y d) == q)) else .stuck
  | _ => .stuck
noncomputable def eqO (q : Bool) (a b : PyData) : R PyData := if SeqAt.shaped a && SeqAt.shaped b then .ok (.bool (PyData.eqv a b == q)) else .stuck
noncomputable def cmpD : CmpO → PyData → PyData → R PyData
  | .eq => eqO true
  | .ne => eqO false
  | .lt => intO fun a b => .ok (.bool (decide (a < b)))
  | .le => intO fun a b => .ok (.bool (decide (a ≤ b)))
  | .gt => intO fun a b => .ok (.bool (decide (b < a)))
  | .ge => intO fun a b => .ok (.bool (decide (b ≤ a)))
  | .isin => inO true
  | .notin => inO false

noncomputable def nth (xs : List PyData) (i : Int) : Option PyData :=
  if 0 ≤ i then xs[i.toNat]? else if -(xs.length : Int) ≤ i then xs[(i + xs.length).toNat]? else Option.none

noncomputable def dget : List (PyData × PyData) → Int → Option PyData
  | (.int j, d) :: r, k => if j = k then some d else dget r k
  | _, _ => Option.none
noncomputable def dset : List (PyData × PyData) → Int → PyData → List (PyData × PyData)
  | (.int j, e) :: r, k, d => if j = k then (.int j, d) :: r else (.int j, e) :: dset r k d
  | _, k, d => [(.int k, d)]
noncomputable def dmake : List PyData → List (PyData × PyData) → R PyData
  | .tuple [.int k, d] :: r, acc => dmake r (dset acc k d)
  | [], acc => .ok (.dict acc)
  | _, _ => .stuck

noncomputable def idxD : PyData → PyData → R PyData
  | .list xs, .int i => match nth xs i with | some d => .ok d | Option.none => .stuck
  | .tuple xs, .int i => match nth xs i with | some d => .ok d | Option.none => .stuck
  | .dict kvs, .int k => match dget kvs k with | some d => .ok d | Option.none => .stuck
  | _, _ => .stuck
noncomputable def slD (a lo hi : PyData) : R PyData := match a, lo, hi with
  | .list xs, .int i, .int j => if 0 ≤ i ∧ 0 ≤ j then .ok (.list ((xs.take j.toNat).drop i.toNat)) else .stuck
  | .tuple xs, .int i, .int j => if 1 ≤ i ∧ i ≤ j ∧ j ≤ (xs.length : Int) then .ok (.tuple ((xs.take j.toNat).drop i.toNat)) else .stuck
  | _, _, _ => .stuck
noncomputable def slToD (a hi : PyData) : R PyData := match a, hi with
  | .list xs, .int j => if 0 ≤ j then .ok (.list (xs.take j.toNat)) else .stuck
  | _, _ => .stuck
noncomputable def slFromD (a lo : PyData) : R PyData := match a, lo with
  | .list xs, .int i => if 0 ≤ i then .ok (.list (xs.drop i.toNat)) else .stuck
  | _, _ => .stuck
noncomputable def lenD : PyData → R PyData
  | .list xs => .ok (.int xs.length)
  | .tuple xs => .ok (.int xs.length)
  | _ => .stuck
noncomputable def absD : PyData → R PyData
  | .int a => .ok (.int (if a < 0 then -a else a))
  | _ => .stuck
noncomputable def min2D : PyData → PyData → R PyData
  | .int a, .int b => .ok (.int (if b < a then b else a))
  | _, _ => .stuck
noncomputable def sumL : List PyData → Option Int
  | [] => some 0
  | .int a :: r => (sumL r).map (a + ·)
  | _ :: _ => Option.none
noncomputable def sumD : PyData → R PyData
  | .list xs => match sumL xs with | some k => .ok (.int k) | Option.none => .stuck
  | _ => .stuck
noncomputable def lcopyD : PyData → R PyData
  | .list xs => .ok (.list xs)
  | _ => .stuck
noncomputable def mkdictD : PyData → R PyData
  | .list xs => dmake xs []
  | _ => .stuck
noncomputable def litemsD : PyData → R PyData
  | .dict kvs => .ok (.list (kvs.map fun p => .tuple [p.1, p.2]))
  | _ => .stuck
noncomputable def negD : PyData → R PyData
  | .int a => .ok (.int (-a))
  | _ => .stuck
noncomputable def notD : PyData → R PyData
  | .bool a => .ok (.bool (!a))
  | _ => .stuck
noncomputable def textD : PyData → R PyData
  | .int a => if 0 ≤ a ∧ a < 1000000 then .ok (.str (Str.ofString (toString a))) else .stuck
  | _ => .stuck
noncomputable def isCD (p : Bool) (a b : PyData) : R PyData := match b with
  | .none => (match a with
    | .none => .ok (.bool p)
    | .str _ => .stuck
    | _ => .ok (.bool (!p)))
  | .bool c => (match a with
    | .bool x => .ok (.bool ((x == c) == p))
    | .none => .ok (.bool (!p))
    | _ => .stuck)
  | _ => .stuck
noncomputable def isTD (p : Bool) : PyData → String → R PyData
  | .int _, T => .ok (.bool ((T == "int") == p))
  | .bool _, T => .ok (.bool ((T == "bool") == p))
  | _, _ => .stuck

noncomputable def pairLe : PyData → PyData → Bool
  | .tuple [.int a, .int b], .tuple [.int c, .int d] => decide (a < c) || (decide (a = c) && decide (b ≤ d))
  | _, _ => true
noncomputable def isPair : PyData → Bool
  | .tuple [.int _, .int _] => true
  | _ => false
noncomputable def insP (x : PyData) : List PyData → List PyData
  | [] => [x]
  | y :: r => if pairLe x y then x :: y :: r else y :: insP x r
noncomputable def sortP : List PyData → List PyData
  | [] => []
  | x :: r => insP x (sortP r)
noncomputable def sortedD : PyData → R PyData
  | .list xs => if xs.all isPair then .ok (.list (sortP xs)) else .stuck
  | _ => .stuck

noncomputable def itemsD : PyData → R (List PyData)
  | .list xs => .ok xs
  | .tuple xs => .ok xs
  | .dict kvs => .ok (kvs.map (·.1))
  | _ => .stuck
noncomputable def rangeD : PyData → R (List PyData)
  | .int n => if -1048576 ≤ n ∧ n ≤ 1048576 then .ok ((List.range n.toNat).map fun i => .int (i : Nat)) else .stuck
  | _ => .stuck
noncomputable def valuesD : PyData → R (List PyData)
  | .dict kvs => .ok (kvs.map (·.2))
  | _ => .stuck

noncomputable def mapR (f : PyData → R PyData) : List PyData → R (List PyData)
  | [] => .ok []
  | x :: r => match f x with
    | .ok y => (match mapR f r with | .ok ys => .ok (y :: ys) | _ => .stuck)
    | _ => .stuck
noncomputable def filterR (p : PyData → R PyData) (f : PyData → R PyData) : List PyData → R (List PyData)
  | [] => .ok []
  | x :: r => match p x with
    | .ok (.bool true) => (match f x with
      | .ok y => (match filterR p f r with | .ok ys => .ok (y :: ys) | _ => .stuck)
      | _ => .stuck)
    | .ok (.bool false) => filterR p f r
    | _ => .stuck
noncomputable def dcompR (k v : PyData → R PyData) : List PyData → List (PyData × PyData) → R PyData
  | [], acc => .ok (.dict acc)
  | x :: r, acc => match k x with
    | .ok (.int j) => (match v x with
      | .ok d => dcompR k v r (dset acc j d)
      | _ => .stuck)
    | _ => .stuck
noncomputable def genR (f : String) (g : PyData → R PyData) (xs : List PyData) : R PyData :=
  (mapR g xs).bind fun ys =>
    if f = "sum" then (match sumL ys with | some k => .ok (.int k) | Option.none => .stuck)
    else if f = "any" then (if ys.all (fun y => match y with | .bool _ => true | _ => false) then .ok (.bool (ys.any fun y => match y with | .bool b => b | _ => false)) else .stuck)
    else if f = "all" then (if ys.all (fun y => match y with | .bool _ => true | _ => false) then .ok (.bool (ys.all fun y => match y with | .bool b => b | _ => true)) else .stuck)
    else .stuck

noncomputable def genD (f : String) (g : PyData → R PyData) : PyData → R PyData
  | .list xs => genR f g xs
  | _ => .stuck

structure FT where
  fn : Nat → List PyData → R PyData
  gl : List PyData
  lev : Nat → Nat

mutual
noncomputable def ev (F : FT) (ρ : Rho) (c : Option PyData) : E → R PyData
  | .none => .ok .none
  | .bool b => .ok (.bool b)
  | .int i => .ok (.int i)
  | .str s => .ok (.str s)
  | .var i => getV ρ i
  | .own _ => .stuck
  | .it3 i => getI3 ρ i
  | .cv => match c with | some d => .ok d | Option.none => .stuck
  | .gl k => match F.gl[k]? with | some d => .ok d | Option.none => .stuck
  | .bin o l r => (sm ρ l (ev F ρ c l)).bind fun a => (sm ρ r (ev F ρ c r)).bind fun b => binD o a b
  | .neg e => (ev F ρ c e).bind negD
  | .not e => (ev F ρ c e).bind notD
  | .cmp o l r => (sm ρ l (ev F ρ c l)).bind fun a => (sm ρ r (ev F ρ c r)).bind fun b => cmpD o a b
  | .isC p e k => (ev F ρ c e).bind fun a => (ev F ρ c k).bind fun b => isCD p a b
  | .isT p e T => (ev F ρ c e).bind fun a => isTD p a T
  | .bop isAnd l r => (ev F ρ c l).bind fun a => match a with
    | .bool b => if b == isAnd then (ev F ρ c r).bind (fun d => match d with | .bool x => .ok (.bool x) | _ => .stuck) else .ok (.bool b)
    | _ => .stuck
  | .ite t a b => (ev F ρ c t).bind fun x => match x with
    | .bool true => ev F ρ c a
    | .bool false => ev F ρ c b
    | _ => .stuck
  | .call f args => (evL F ρ c args).bind fun ds => F.fn f ds
  | .len e => (sm ρ e (ev F ρ c e)).bind lenD
  | .abs e => (ev F ρ c e).bind absD
  | .min2 a b => (ev F ρ c a).bind fun x => (ev F ρ c b).bind fun y => min2D x y
  | .sum e => (ev F ρ c e).bind sumD
  | .lcopy e => (sm ρ e (ev F ρ c e)).bind lcopyD
  | .mkdict e => (sm ρ e (ev F ρ c e)).bind mkdictD
  | .litems e => (ev F ρ c e).bind litemsD
  | .sorted e => (ev F ρ c e).bind sortedD
  | .text e => (ev F ρ c e).bind textD
  | .range _ => .stuck
  | .values _ => .stuck
  | .idx a i => (sm ρ a (ev F ρ c a)).bind fun x => (ev F ρ c i).bind fun k => idxD x k
  | .sl a lo hi => (sm ρ a (ev F ρ c a)).bind fun x => (ev F ρ c lo).bind fun i => (ev F ρ c hi).bind fun j => slD x i j
  | .slTo a hi => (sm ρ a (ev F ρ c a)).bind fun x => (ev F ρ c hi).bind fun j => slToD x j
  | .slFrom a lo => (sm ρ a (ev F ρ c a)).bind fun x => (ev F ρ c lo).bind fun i => slFromD x i
  | .tup es => (evL F ρ c es).bind fun ds => .ok (.tuple ds)
  | .lst es => (evL F ρ c es).bind fun ds => .ok (.list ds)
  | .dict0 => .ok (.dict [])
  | .comp elt src => (match src with | .range e => (ev F ρ c e).bind rangeD | .values e => (ev F ρ c e).bind valuesD | e => (ev F ρ c e).bind itemsD).bind fun xs => (mapR (fun x => ev F ρ (some x) elt) xs).bind fun ys => .ok (.list ys)
  | .compIf elt cond src => (match src with | .range e => (ev F ρ c e).bind rangeD | .values e => (ev F ρ c e).bind valuesD | e => (ev F ρ c e).bind itemsD).bind fun xs => (filterR (fun x => ev F ρ (some x) cond) (fun x => ev F ρ (some x) elt) xs).bind fun ys => .ok (.list ys)
  | .dcomp k v src => (match src with | .range e => (ev F ρ c e).bind rangeD | .values e => (ev F ρ c e).bind valuesD | e => (ev F ρ c e).bind itemsD).bind fun xs => dcompR (fun x => ev F ρ (some x) k) (fun x => ev F ρ (some x) v) xs []
  | .gen f elt src => (ev F ρ c src).bind (genD f fun x => ev F ρ (some x) elt)
noncomputable def evL (F : FT) (ρ : Rho) (c : Option PyData) : List E → R (List PyData)
  | [] => .ok []
  | e :: r => (ev F ρ c e).bind fun d => (evL F ρ c r).bind fun ds => .ok (d :: ds)
end
noncomputable def evI (F : FT) (ρ : Rho) (c : Option PyData) (src : E) : R (List PyData) :=
  match src with | .range e => (ev F ρ c e).bind rangeD | .values e => (ev F ρ c e).bind valuesD | e => (ev F ρ c e).bind itemsD

theorem ev_comp (F : FT) (ρ : Rho) (c : Option PyData) (elt src : E) : ev F ρ c (.comp elt src) = (evI F ρ c src).bind fun xs => (mapR (fun x => ev F ρ (some x) elt) xs).bind fun ys => .ok (.list ys) := by cases src <;> rfl
theorem ev_compIf (F : FT) (ρ : Rho) (c : Option PyData) (elt cond src : E) : ev F ρ c (.compIf elt cond src) = (evI F ρ c src).bind fun xs => (filterR (fun x => ev F ρ (some x) cond) (fun x => ev F ρ (some x) elt) xs).bind fun ys => .ok (.list ys) := by cases src <;> rfl
theorem ev_gen (F : FT) (ρ : Rho) (c : Option PyData) (f : String) (elt src : E) : ev F ρ c (.gen f elt src) = (ev F ρ c src).bind (genD f fun x => ev F ρ (some x) elt) := rfl

inductive Out where
  | next (ρ : Rho)
  | ret (d : PyData)
  | retF (ns fs : List PyData) (a b : PyData)
  | exc (k : Exk) (ρ : Rho)
  | stuck

noncomputable def R.out (ρ : Rho) (x : R α) (f : α → Out) : Out := match x with
  | .ok a => f a
  | .exc k => .exc k ρ
  | .stuck => .stuck

noncomputable def setV (ρ : Rho) (i : Nat) (d : PyData) : Rho := ρ.set i (.v d)

noncomputable def setVs : List Nat → List PyData → Rho → Option Rho
  | [], [], ρ => some ρ
  | i :: is, d :: ds, ρ => setVs is ds (setV ρ i d)
  | _, _, _ => Option.none

noncomputable def forL (turn : PyData → Rho → Out) : List PyData → Rho → Out
  | [], ρ => .next ρ
  | x :: r, ρ => match turn x ρ with
    | .next ρ' => forL turn r ρ'
    | .ret d => .ret d
    | _ => .stuck
noncomputable def whl (test : Rho → R PyData) (body : Rho → Out) : Nat → Rho → Out
  | 0, _ => .stuck
  | n + 1, ρ => match test ρ with
    | .ok (.bool true) => (match body ρ with
      | .next ρ' => whl test body n ρ'
      | .ret d => .ret d
      | _ => .stuck)
    | .ok (.bool false) => .next ρ
    | _ => .stuck
noncomputable def wFuel : Nat := 100000

noncomputable def setListD (ds : List PyData) (i : PyData) (d : PyData) : Option (List PyData) := match i with
  | .int k => if 0 ≤ k ∧ k < ds.length then some (ds.set k.toNat d) else Option.none
  | _ => Option.none

noncomputable def freshE : E → Bool
  | .lst _ | .bin .add _ _ | .bin .mul _ _ | .lcopy _ | .sl _ _ _ | .slTo _ _ | .slFrom _ _ | .comp _ _ | .compIf _ _ _ => true
  | _ => false

noncomputable def exkOk : Exk → Exk → Bool
  | .value, .value => true
  | .oom, .oom => true
  | _, _ => false

mutual
noncomputable def evS (F : FT) : S → Rho → Out
  | .assign i e, ρ => (ev F ρ .none e).out ρ fun d => .next (setV ρ i d)
  | .assignO i e, ρ => if freshE e then (ev F ρ .none e).out ρ (fun d => match d with | .list ds => .next (ρ.set i (.own ds)) | _ => .stuck) else .stuck
  | .assignT is e, ρ => (ev F ρ .none e).out ρ fun d => match d with
    | .tuple ds => (match setVs is ds ρ with | some ρ' => .next ρ' | Option.none => .stuck)
    | _ => .stuck
  | .setItem x i e, ρ => (ev F ρ .none e).out ρ fun d => match ρ[x]? with
    | some (.own ds) => (ev F ρ .none i).out ρ fun k => (match setListD ds k d with | some ds' => .next (ρ.set x (.own ds')) | Option.none => .stuck)
    | _ => .stuck
  | .append x e, ρ => match ρ[x]? with
    | some (.own _) => (ev F ρ .none e).out ρ fun d => (match ρ[x]? with
      | some (.own ds) => if ds.length < 1048576 then .next (ρ.set x (.own (ds ++ [d]))) else .stuck
      | _ => .stuck)
    | _ => .stuck
  | .drop e, ρ => (ev F ρ .none e).out ρ fun _ => .next ρ
  | .ife c a b, ρ => (ev F ρ .none c).out ρ fun x => match x with
    | .bool true => evSs F a ρ
    | .bool false => evSs F b ρ
    | _ => .stuck
  | .for1 x src body, ρ => (evI F ρ .none src).out ρ fun xs => forL (fun d ρ => evSs F body (setV ρ x d)) xs ρ
  | .forT is src body, ρ => (evI F ρ .none src).out ρ fun xs => forL (fun d ρ => match d with
    | .tuple ds => (match setVs is ds ρ with | some ρ' => evSs F body ρ' | Option.none => .stuck)
    | _ => .stuck) xs ρ
  | .whil c body, ρ => whl (fun ρ => ev F ρ .none c) (fun ρ => evSs F body ρ) wFuel ρ
  | .ret e, ρ => (sm ρ e (ev F ρ .none e)).out ρ fun d => .ret d
  | .raise k e, ρ => (ev F ρ .none e).out ρ fun d => match d with
    | .str _ => .exc k ρ
    | _ => .stuck
  | .tryc body k x c, ρ => match evSs F body ρ with
    | .exc k' ρ' => if exkOk k' k then (ev F ρ' .none c).out ρ' (fun d => .next (setV ρ' x d)) else .stuck
    | o => o
  | .frz x, ρ => match ρ[x]? with
    | some (.own ds) => .next (ρ.set x (.v (.list ds)))
    | _ => .stuck
  | .fwd st nw fo to f args, ρ => (evL F ρ .none args).out ρ fun ds => (F.fn f ds).out ρ fun d => match d with
    | .tuple [.list ns, .list fs, .int t, .int w] => .next ((((ρ.set st (.i3 w)).set nw (.own ns)).set fo (.own fs)).set to (.v (.int t)))
    | _ => .stuck
  | .retF nw fo a b, ρ => match ρ[nw]?, ρ[fo]? with
    | some (.own ns), some (.own fs) => (ev F ρ .none a).out ρ fun x => (ev F ρ .none b).out ρ fun y => .retF ns fs x y
    | _, _ => .stuck
noncomputable def evSs (F : FT) : List S → Rho → Out
  | [], ρ => .next ρ
  | s :: r, ρ => match evS F s ρ with
    | .next ρ' => evSs F r ρ'
    | o => o
end

end Mine

-- M2
namespace Mine
open PySem

structure Sc where
  fs : Scope
  vars : List Str
  cs : Option Scope
  cv : Str

structure Tb where
  gl : List Str
  fn : List Str
  ff : Option Nat

noncomputable def Sc.kd (Γ : Sc) (x : Str) : Option NameKind := match Γ.cs with
  | none => Γ.fs.names.lookup x
  | some c => c.names.lookup x
noncomputable def Sc.isVar (Γ : Sc) (i : Nat) (x : Str) : Bool := Γ.vars[i]? == some x && (x == ("__debug__" : Str)) == false && (match Γ.cs with
  | none => Γ.fs.names.lookup x == some .local || Γ.fs.names.lookup x == some .cell
  | some c => c.names.lookup x == some .free && Γ.fs.names.lookup x == some .cell && (x == ("__classdict__" : Str)) == false)
noncomputable def Sc.isCv (Γ : Sc) (x : Str) : Bool := (x == ("__debug__" : Str)) == false && x == Γ.cv && (match Γ.cs with
  | none => false
  | some c => c.names.lookup x == some .local)
noncomputable def Sc.isGlob (Γ : Sc) (x y : Str) : Bool := x == y && (x == ("__debug__" : Str)) == false && Γ.kd x == some .globalImplicit
noncomputable def Sc.isBlt (Γ : Sc) (x y : Str) : Bool := Γ.isGlob x y
noncomputable def Sc.into (Γ : Sc) (c : Scope) (x : Str) : Sc := { Γ with cs := some c, cv := x }

noncomputable def noStar : Expr → Bool
  | .Starred _ _ => false
  | _ => true
noncomputable def asName : Expr → Option Str
  | .Name x _ => some x
  | _ => none
noncomputable def isSetE : Expr → Bool
  | .Set _ _ _ => true
  | _ => false
noncomputable def isCallE : Expr → Bool
  | .Call _ _ _ _ => true
  | _ => false
noncomputable def compSc (Γ : Sc) (sc : Scope) (x : Str) : Bool :=
  Γ.cs.isNone && sc.kind == .function && sc.names.lookup x == some .local && !sc.isGenerator && !sc.isCoroutine &&
  sc.names.all (fun p => p.2 != .cell && (p.2 != .local || sc.names.lookup p.1 == some .local) && (p.2 != .free || Γ.fs.names.lookup p.1 == some .cell))
noncomputable def opOf : BinO → Operator
  | .add => .Add | .sub => .Sub | .mul => .Mult | .fdiv => .FloorDiv | .mod => .Mod
noncomputable def cmpOf : CmpO → CmpOp
  | .eq => .Eq | .ne => .NotEq | .lt => .Lt | .le => .LtE | .gt => .Gt | .ge => .GtE | .isin => .In | .notin => .NotIn
noncomputable def isOf (p : Bool) : CmpOp := if p then .Is else .IsNot
noncomputable def bopOf (p : Bool) : BoolOp := if p then .And else .Or
noncomputable def excName : Exk → Str
  | .value => "ValueError"
  | .oom => "OutOfMemory"
noncomputable def isConstE : E → Bool
  | .none | .bool _ | .str _ => true
  | _ => false
noncomputable def isCallF : E → Bool
  | .call _ _ => true
  | _ => false
noncomputable def isCompE : E → Bool
  | .comp _ _ | .compIf _ _ _ => true
  | _ => false
noncomputable def isBopE (a : Bool) : E → Bool
  | .bop b _ _ => a == b
  | _ => false

/-! the Python tree of a small tree; what is not told by it (places) is taken from a tree p -/
noncomputable def dE : Expr := .Name "" ⟨0, 0, 0, 0⟩
noncomputable def kids : Expr → List Expr
  | .BoolOp _ es _ => es
  | .BinOp l _ r _ => [l, r]
  | .UnaryOp _ e _ => [e]
  | .IfExp a b c _ => [a, b, c]
  | .ListComp e gs _ _ => e :: gs.flatMap fun g => g.target :: g.iter :: g.ifs
  | .Compare l _ rs _ => l :: rs
  | .Call f as _ _ => f :: as
  | .Attribute v _ _ => [v]
  | .Subscript v i _ => [v, i]
  | .List es _ => es
  | .Tuple es _ _ => es
  | .Slice l u _ _ => [l.getD dE, u.getD dE]
  | _ => []
noncomputable def kid (p : Expr) (i : Nat) : Expr := (kids p).getD i dE
noncomputable def scOf : Expr → Scope
  | .ListComp _ _ s _ => s
  | _ => { kind := .function, names := [], isGenerator := false, isCoroutine := false, more := [] }
noncomputable def nmOf (p : Expr) : Str := (asName p).getD ""
noncomputable def Sc.nm (Γ : Sc) (i : Nat) : Str := Γ.vars.getD i ""
noncomputable def Sc.inC (Γ : Sc) (p : Expr) : Sc := Γ.into (scOf p) (nmOf (kid p 1))
noncomputable def bopCons (o : BoolOp) (a q : Expr) (pos : Pos) : Expr := .BoolOp o (a :: kids q) pos

mutual
noncomputable def rb (T : Tb) (Γ : Sc) : E → Expr → Expr
  | .none, p => .Constant .none 0 p.pos
  | .bool b, p => .Constant (.bool b) 0 p.pos
  | .int i, p => .Constant (.int i) 0 p.pos
  | .str s, p => .Constant (.str s) 0 p.pos
  | .var i, p => .Name (Γ.nm i) p.pos
  | .own i, p => .Name (Γ.nm i) p.pos
  | .it3 i, p => .Subscript (.Name (Γ.nm i) (kid p 0).pos) (.Constant (.int 3) 0 (kid p 1).pos) p.pos
  | .cv, p => .Name Γ.cv p.pos
  | .gl k, p => .Name (T.gl.getD k "") p.pos
  | .bin o l r, p => .BinOp (rb T Γ l (kid p 0)) (opOf o) (rb T Γ r (kid p 1)) p.pos
  | .neg e, p => .UnaryOp .USub (rb T Γ e (kid p 0)) p.pos
  | .not e, p => .UnaryOp .Not (rb T Γ e (kid p 0)) p.pos
  | .cmp o l r, p => .Compare (rb T Γ l (kid p 0)) [cmpOf o] [rb T Γ r (kid p 1)] p.pos
  | .isC q e c, p => .Compare (rb T Γ e (kid p 0)) [isOf q] [rb T Γ c (kid p 1)] p.pos
  | .isT q e n, p => .Compare (.Call (.Name "type" (kid (kid p 0) 0).pos) [rb T Γ e (kid (kid p 0) 1)] [] (kid p 0).pos) [isOf q] [.Name (Str.ofString n) (kid p 1).pos] p.pos
  | .bop q l r, p => (match decide ((kids p).length ≤ 2) with
    | true => .BoolOp (bopOf q) [rb T Γ l (kid p 0), rb T Γ r (kid p 1)] p.pos
    | false => bopCons (bopOf q) (rb T Γ l (kid p 0)) (rb T Γ r (.BoolOp (bopOf q) (kids p).tail p.pos)) p.pos)
  | .ite c a b, p => .IfExp (rb T Γ c (kid p 0)) (rb T Γ a (kid p 1)) (rb T Γ b (kid p 2)) p.pos
  | .call f args, p => .Call (.Name (T.fn.getD f "") (kid p 0).pos) (rbL T Γ args (kids p).tail) [] p.pos
  | .len e, p => .Call (.Name "len" (kid p 0).pos) [rb T Γ e (kid p 1)] [] p.pos
  | .abs e, p => .Call (.Name "abs" (kid p 0).pos) [rb T Γ e (kid p 1)] [] p.pos
  | .min2 x y, p => .Call (.Name "min" (kid p 0).pos) [rb T Γ x (kid p 1), rb T Γ y (kid p 2)] [] p.pos
  | .sum e, p => .Call (.Name "sum" (kid p 0).pos) [rb T Γ e (kid p 1)] [] p.pos
  | .lcopy e, p => .Call (.Name "list" (kid p 0).pos) [rb T Γ e (kid p 1)] [] p.pos
  | .mkdict e, p => .Call (.Name "dict" (kid p 0).pos) [rb T Γ e (kid p 1)] [] p.pos
  | .litems e, p => .Call (.Name "list" (kid p 0).pos) [.Call (.Attribute (rb T Γ e (kid (kid (kid p 1) 0) 0)) "items" (kid (kid p 1) 0).pos) [] [] (kid p 1).pos] [] p.pos
  | .sorted _, _ => dE
  | .text e, p => .Call (.Name "str" (kid p 0).pos) [rb T Γ e (kid p 1)] [] p.pos
  | .range e, p => .Call (.Name "range" (kid p 0).pos) [rb T Γ e (kid p 1)] [] p.pos
  | .values e, p => .Call (.Attribute (rb T Γ e (kid (kid p 0) 0)) "values" (kid p 0).pos) [] [] p.pos
  | .idx a i, p => .Subscript (rb T Γ a (kid p 0)) (rb T Γ i (kid p 1)) p.pos
  | .sl a lo hi, p => .Subscript (rb T Γ a (kid p 0)) (.Slice (some (rb T Γ lo (kid (kid p 1) 0))) (some (rb T Γ hi (kid (kid p 1) 1))) none (kid p 1).pos) p.pos
  | .slTo a hi, p => .Subscript (rb T Γ a (kid p 0)) (.Slice none (some (rb T Γ hi (kid (kid p 1) 1))) none (kid p 1).pos) p.pos
  | .slFrom a lo, p => .Subscript (rb T Γ a (kid p 0)) (.Slice (some (rb T Γ lo (kid (kid p 1) 0))) none none (kid p 1).pos) p.pos
  | .tup es, p => .Tuple (rbL T Γ es (kids p)) 0 p.pos
  | .lst es, p => .List (rbL T Γ es (kids p)) p.pos
  | .dict0, p => .Dict [] [] p.pos
  | .comp elt src, p => .ListComp (rb T (Γ.inC p) elt (kid p 0)) [⟨.Name (nmOf (kid p 1)) (kid p 1).pos, rb T Γ src (kid p 2), [], 0⟩] (scOf p) p.pos
  | .compIf elt cond src, p => .ListComp (rb T (Γ.inC p) elt (kid p 0)) [⟨.Name (nmOf (kid p 1)) (kid p 1).pos, rb T Γ src (kid p 2), [rb T (Γ.inC p) cond (kid p 3)], 0⟩] (scOf p) p.pos
  | .dcomp _ _ _, _ => dE
  | .gen _ _ _, _ => dE
noncomputable def rbL (T : Tb) (Γ : Sc) : List E → List Expr → List Expr
  | [], _ => []
  | e :: r, ps => rb T Γ e (ps.getD 0 dE) :: rbL T Γ r ps.tail
end
mutual
noncomputable def wf (T : Tb) (Γ : Sc) : E → Expr → Bool
  | .none, _ => true
  | .bool _, _ => true
  | .int _, _ => true
  | .str s, _ => decide (s.length ≤ 1000) && PyData.strOk s
  | .var i, _ => Γ.isVar i (Γ.nm i)
  | .own i, _ => Γ.isVar i (Γ.nm i)
  | .it3 _, _ => false
  | .cv, _ => Γ.isCv Γ.cv
  | .gl _, _ => false
  | .bin _ l r, p => wf T Γ l (kid p 0) && wf T Γ r (kid p 1)
  | .neg e, p => wf T Γ e (kid p 0)
  | .not e, p => wf T Γ e (kid p 0)
  | .cmp _ l r, p => wf T Γ l (kid p 0) && wf T Γ r (kid p 1)
  | .isC _ e c, p => wf T Γ e (kid p 0) && wf T Γ c (kid p 1)
  | .isT _ e n, p => Γ.isBlt "type" "type" && (Γ.isBlt (Str.ofString n) (Str.ofString n) && ((n == "int" || n == "bool") && wf T Γ e (kid (kid p 0) 1)))
  | .bop q l r, p => wf T Γ l (kid p 0) && (match decide ((kids p).length ≤ 2) with
    | true => wf T Γ r (kid p 1)
    | false => isBopE q r && wf T Γ r (.BoolOp (bopOf q) (kids p).tail p.pos))
  | .ite c a b, p => wf T Γ c (kid p 0) && (wf T Γ a (kid p 1) && wf T Γ b (kid p 2))
  | .call f args, p => decide (f < T.fn.length) && (Γ.isGlob (T.fn.getD f "") (T.fn.getD f "") && (!args.isEmpty && wfL T Γ args (kids p).tail))
  | .len e, p => Γ.isBlt "len" "len" && wf T Γ e (kid p 1)
  | .abs e, p => Γ.isBlt "abs" "abs" && wf T Γ e (kid p 1)
  | .min2 x y, p => Γ.isBlt "min" "min" && (wf T Γ x (kid p 1) && wf T Γ y (kid p 2))
  | .sum _, _ => false
  | .lcopy e, p => Γ.isBlt "list" "list" && wf T Γ e (kid p 1)
  | .mkdict e, p => Γ.isBlt "dict" "dict" && wf T Γ e (kid p 1)
  | .litems _, _ => false
  | .sorted _, _ => false
  | .text e, p => Γ.isBlt "str" "str" && wf T Γ e (kid p 1)
  | .range e, p => Γ.isBlt "range" "range" && wf T Γ e (kid p 1)
  | .values _, _ => false
  | .idx a i, p => wf T Γ a (kid p 0) && wf T Γ i (kid p 1)
  | .sl a lo hi, p => wf T Γ a (kid p 0) && (wf T Γ lo (kid (kid p 1) 0) && wf T Γ hi (kid (kid p 1) 1))
  | .slTo a hi, p => wf T Γ a (kid p 0) && wf T Γ hi (kid (kid p 1) 1)
  | .slFrom a lo, p => wf T Γ a (kid p 0) && wf T Γ lo (kid (kid p 1) 0)
  | .tup es, p => decide (es.length ≤ 1000) && wfL T Γ es (kids p)
  | .lst es, p => decide (es.length ≤ 1000) && wfL T Γ es (kids p)
  | .dict0, _ => false
  | .comp elt src, p => compSc Γ (scOf p) (nmOf (kid p 1)) && (wf T (Γ.inC p) elt (kid p 0) && wf T Γ src (kid p 2))
  | .compIf elt cond src, p => compSc Γ (scOf p) (nmOf (kid p 1)) && (wf T (Γ.inC p) elt (kid p 0) && (wf T Γ src (kid p 2) && wf T (Γ.inC p) cond (kid p 3)))
  | .dcomp _ _ _, _ => false
  | .gen _ _ _, _ => false
noncomputable def wfL (T : Tb) (Γ : Sc) : List E → List Expr → Bool
  | [], _ => true
  | e :: r, ps => wf T Γ e (ps.getD 0 dE) && wfL T Γ r ps.tail
end

noncomputable def dS : Stmt := .Pass ⟨0, 0, 0, 0⟩
noncomputable def sks : Stmt → List Expr
  | .Return v _ => [v.getD dE]
  | .Assign ts v _ => ts ++ [v]
  | .For t i _ _ _ => [t, i]
  | .While c _ _ _ => [c]
  | .If c _ _ _ => [c]
  | .Raise e _ _ => [e.getD dE]
  | .Try _ [.ExceptHandler t _ _ _] _ _ _ => [t.getD dE]
  | .Expr e _ => [e]
  | _ => []
noncomputable def sk (p : Stmt) (i : Nat) : Expr := (sks p).getD i dE
noncomputable def sbs : Stmt → List (List Stmt)
  | .For _ _ b _ _ => [b]
  | .While _ b _ _ => [b]
  | .If _ a b _ => [a, b]
  | .Try a [.ExceptHandler _ _ b _] _ _ _ => [a, b]
  | _ => []
noncomputable def sb (p : Stmt) (i : Nat) : List Stmt := (sbs p).getD i []
noncomputable def hpos : Stmt → Pos
  | .Try _ [.ExceptHandler _ _ _ h] _ _ _ => h
  | _ => ⟨0, 0, 0, 0⟩
noncomputable def rbN (Γ : Sc) : List Nat → List Expr → List Expr
  | [], _ => []
  | i :: is, ps => .Name (Γ.nm i) (ps.getD 0 dE).pos :: rbN Γ is ps.tail
noncomputable def wfN (Γ : Sc) : List Nat → Bool
  | [] => true
  | i :: is => Γ.isVar i (Γ.nm i) && wfN Γ is
noncomputable def rbIt (Γ : Sc) (x st : Nat) (k : Int) (p : Stmt) : Stmt := .Assign [.Name (Γ.nm x) (sk p 0).pos] (.Subscript (.Name (Γ.nm st) (kid (sk p 1) 0).pos) (.Constant (.int k) 0 (kid (sk p 1) 1).pos) (sk p 1).pos) p.pos

mutual
noncomputable def rbS (T : Tb) (Γ : Sc) : S → Stmt → Stmt
  | .assign i e, p => .Assign [.Name (Γ.nm i) (sk p 0).pos] (rb T Γ e (sk p 1)) p.pos
  | .assignO i e, p => .Assign [.Name (Γ.nm i) (sk p 0).pos] (rb T Γ e (sk p 1)) p.pos
  | .assignT is e, p => .Assign [.Tuple (rbN Γ is (kids (sk p 0))) 0 (sk p 0).pos] (rb T Γ e (sk p 1)) p.pos
  | .setItem x i e, p => .Assign [.Subscript (.Name (Γ.nm x) (kid (sk p 0) 0).pos) (rb T Γ i (kid (sk p 0) 1)) (sk p 0).pos] (rb T Γ e (sk p 1)) p.pos
  | .append x e, p => .Expr (.Call (.Attribute (.Name (Γ.nm x) (kid (kid (sk p 0) 0) 0).pos) "append" (kid (sk p 0) 0).pos) [rb T Γ e (kid (sk p 0) 1)] [] (sk p 0).pos) p.pos
  | .drop e, p => .Expr (rb T Γ e (sk p 0)) p.pos
  | .ife c a b, p => .If (rb T Γ c (sk p 0)) (rbSs T Γ a (sb p 0)) (rbSs T Γ b (sb p 1)) p.pos
  | .for1 x src body, p => .For (.Name (Γ.nm x) (sk p 0).pos) (rb T Γ src (sk p 1)) (rbSs T Γ body (sb p 0)) [] p.pos
  | .forT is src body, p => .For (.Tuple (rbN Γ is (kids (sk p 0))) 0 (sk p 0).pos) (rb T Γ src (sk p 1)) (rbSs T Γ body (sb p 0)) [] p.pos
  | .whil c body, p => .While (rb T Γ c (sk p 0)) (rbSs T Γ body (sb p 0)) [] p.pos
  | .ret e, p => .Return (some (rb T Γ e (sk p 0))) p.pos
  | .raise k e, p => .Raise (some (.Call (.Name (excName k) (kid (sk p 0) 0).pos) [rb T Γ e (kid (sk p 0) 1)] [] (sk p 0).pos)) none p.pos
  | .tryc body k x c, p => .Try (rbSs T Γ body (sb p 0)) [.ExceptHandler (some (.Name (excName k) (sk p 0).pos)) none [.Assign [.Name (Γ.nm x) (sk ((sb p 1).getD 0 dS) 0).pos] (rb T Γ c (sk ((sb p 1).getD 0 dS) 1)) ((sb p 1).getD 0 dS).pos] (hpos p)] [] [] p.pos
  | .frz _, _ => dS
  | .fwd _ _ _ _ _ _, _ => dS
  | .retF nw fo a b, p => .Return (some (.Tuple [.Name (Γ.nm nw) (kid (sk p 0) 0).pos, .Name (Γ.nm fo) (kid (sk p 0) 1).pos, rb T Γ a (kid (sk p 0) 2), rb T Γ b (kid (sk p 0) 3)] 0 (sk p 0).pos)) p.pos
noncomputable def rbSs (T : Tb) (Γ : Sc) : List S → List Stmt → List Stmt
  | [], _ => []
  | s :: r, ps => (match s with
    | .frz _ => rbSs T Γ r ps
    | .fwd st nw fo to f args => .Assign [.Name (Γ.nm st) (sk (ps.getD 0 dS) 0).pos] (.Call (.Name (T.fn.getD f "") (kid (sk (ps.getD 0 dS) 1) 0).pos) (rbL T Γ args (kids (sk (ps.getD 0 dS) 1)).tail) [] (sk (ps.getD 0 dS) 1).pos) (ps.getD 0 dS).pos ::
        rbIt Γ nw st 0 (ps.getD 1 dS) :: rbIt Γ fo st 1 (ps.getD 2 dS) :: rbIt Γ to st 2 (ps.getD 3 dS) :: rbSs T Γ r (ps.drop 4)
    | s => rbS T Γ s (ps.getD 0 dS) :: rbSs T Γ r ps.tail)
end
mutual
noncomputable def wfS (T : Tb) (Γ : Sc) : S → Stmt → Bool
  | .assign i e, p => Γ.isVar i (Γ.nm i) && wf T Γ e (sk p 1)
  | .assignO i e, p => Γ.isVar i (Γ.nm i) && wf T Γ e (sk p 1)
  | .assignT is e, p => wfN Γ is && (isCallF e && wf T Γ e (sk p 1))
  | .setItem x i e, p => Γ.isVar x (Γ.nm x) && (wf T Γ i (kid (sk p 0) 1) && wf T Γ e (sk p 1))
  | .append x e, p => Γ.isVar x (Γ.nm x) && ((kid (sk p 0) 0).pos.endLine == (sk p 0).pos.line && wf T Γ e (kid (sk p 0) 1))
  | .drop e, p => isCallF e && wf T Γ e (sk p 0)
  | .ife c a b, p => wf T Γ c (sk p 0) && (wfSs T Γ a (sb p 0) && wfSs T Γ b (sb p 1))
  | .for1 x src body, p => Γ.isVar x (Γ.nm x) && (wf T Γ src (sk p 1) && wfSs T Γ body (sb p 0))
  | .forT _ _ _, _ => false
  | .whil c body, p => wf T Γ c (sk p 0) && wfSs T Γ body (sb p 0)
  | .ret e, p => wf T Γ e (sk p 0)
  | .raise k e, p => Γ.isGlob (excName k) (excName k) && wf T Γ e (kid (sk p 0) 1)
  | .tryc body k x c, p => wfSs T Γ body (sb p 0) && (Γ.isGlob (excName k) (excName k) && (isConstE c && (Γ.isVar x (Γ.nm x) && wf T Γ c (sk ((sb p 1).getD 0 dS) 1))))
  | .frz _, _ => false
  | .fwd _ _ _ _ _ _, _ => false
  | .retF _ _ _ _, _ => false
noncomputable def wfSs (T : Tb) (Γ : Sc) : List S → List Stmt → Bool
  | [], _ => true
  | s :: r, ps => (match s with
    | .frz _ => wfSs T Γ r ps
    | .fwd _ _ _ _ _ _ => false
    | s => wfS T Γ s (ps.getD 0 dS) && wfSs T Γ r ps.tail)
end

noncomputable def bodyR : Out → R PyData
  | .next _ => .ok .none
  | .ret d => .ok d
  | .retF ns fs a b => .ok (.tuple [.list ns, .list fs, a, b])
  | .exc k _ => .exc k
  | .stuck => .stuck

end Mine

-- M3
namespace Mine
open PySem PySem.Calls PyProof.Rows

noncomputable def Fr (o : Obj) : Prop := o.cls = .type "frame" ∧ ∀ vs, o.data ≠ .fields vs

structure Kp (hb h h' : Heap) : Prop where
  low : ∀ a o, hb.get? a = some o → h.get? a = some o → h'.get? a = some o
  ex : ∀ a o, h.get? a = some o → ¬ Fr o → h'.get? a = some o
  fr : ∀ a o, h.get? a = some o → ∃ sl, h'.get? a = some { o with slots := sl }

section
variable {hb : Heap}
theorem Kp.obj {h h' : Heap} (k : Kp hb h h') (a : Addr) (o : Obj) (e : h.get? a = some o) (c : o.cls ≠ .type "frame") : h'.get? a = some o := k.ex a o e fun q => c q.1
theorem Kp.refl (h : Heap) : Kp hb h h := ⟨fun _ _ _ e => e, fun _ _ e _ => e, fun _ o e => ⟨o.slots, e⟩⟩
theorem Kp.trans {h₁ h₂ h₃ : Heap} (x : Kp hb h₁ h₂) (y : Kp hb h₂ h₃) : Kp hb h₁ h₃ :=
  ⟨fun a o b e => y.low a o b (x.low a o b e), fun a o e c => y.ex a o (x.ex a o e c) c, fun a o e => by
    obtain ⟨s1, h1⟩ := x.fr a o e
    obtain ⟨s2, h2⟩ := y.fr a _ h1
    exact ⟨s2, h2⟩⟩
theorem Kp.strict {h h' : Heap} (hk : ∀ b o, h.get? b = some o → h'.get? b = some o) : Kp hb h h' :=
  ⟨fun a o _ e => hk a o e, fun a o e _ => hk a o e, fun a o e => ⟨o.slots, hk a o e⟩⟩
theorem Kp.push (h : Heap) (o : Obj) : Kp hb h (h.push o) := .strict fun _ _ e => Heap.get?_push_of_some o e
theorem Kp.some {h h' : Heap} (k : Kp hb h h') {a : Addr} (e : h.get? a ≠ none) : h'.get? a ≠ none := by
  cases q : h.get? a with
  | none => exact absurd q e
  | some o =>
    obtain ⟨sl, z⟩ := k.fr a o q
    rw [z]; simp
theorem Kp.stays {h h' : Heap} (k : Kp hb h h') (x : hb.StaysIn h) : hb.StaysIn h' := fun a o e => k.low a o e (x a o e)
theorem Kp.ns {h h' : Heap} (k : Kp hb h h') {a : Addr} {m : Str → Option Value} (x : h.Ns a m) : h'.Ns a m := by
  obtain ⟨o, es, ep, e, d, r⟩ := x
  obtain ⟨sl, z⟩ := k.fr a o e
  exact ⟨_, es, ep, z, d, r⟩
theorem Kp.cell {h h' : Heap} (k : Kp hb h h') {a : Addr} {v : Option Value} (x : h.IsCell a v) : h'.IsCell a v := by
  obtain ⟨o, e, d⟩ := x
  obtain ⟨sl, z⟩ := k.fr a o e
  exact ⟨_, z, d⟩
theorem Kp.frames {h h' : Heap} (k : Kp hb h h') {l : List Env} (x : h.FunFrames hb l) : h'.FunFrames hb l :=
  x.of_keeps fun b o e _ => by
    obtain ⟨sl, z⟩ := k.fr b o e
    exact ⟨_, z, rfl⟩
end

section
variable (prog : Program) (w : World)
noncomputable def zipD : List Int → List PyData → List (PyData × PyData)
  | k :: ks, d :: ds => (.int k, d) :: zipD ks ds
  | _, _ => []
mutual
inductive Rp (h : Heap) (P : Addr → Prop) : Value → PyData → Prop
  | none : Rp h P .none .none
  | bool (b : Bool) : Rp h P (.bool b) (.bool b)
  | int (i : Int) (t : Tok) : Rp h P (.int i t) (.int i)
  | str (x : Str) (t : Tok) : PyData.strOk x = true → x.length ≤ LIM → Rp h P (.str x t) (.str x)
  | list {a : Addr} {vs : List Value} {n : Nat} {xs : List PyData} : P a → h.get? a = some { cls := .type "list", data := .seq vs.toArray n } → xs.length ≤ LIM → RpL h P vs xs → Rp h P (.ref a) (.list xs)
  | tuple {a : Addr} {vs : List Value} {n : Nat} {xs : List PyData} : P a → h.get? a = some { cls := .type "tuple", data := .seq vs.toArray n } → xs.length ≤ LIM → RpL h P vs xs → Rp h P (.ref a) (.tuple xs)
  | dict {a : Addr} {kvs : List (Int × Value)} {ds : List PyData} : P a → (a == sysModules) = false → h.DictOf (intKind prog w) a kvs → ds.length ≤ LIM → RpL h P (kvs.map (·.2)) ds → Rp h P (.ref a) (.dict (zipD (kvs.map (·.1)) ds))
inductive RpL (h : Heap) (P : Addr → Prop) : List Value → List PyData → Prop
  | nil : RpL h P [] []
  | cons {v : Value} {vs : List Value} {d : PyData} {ds : List PyData} : Rp h P v d → RpL h P vs ds → RpL h P (v :: vs) (d :: ds)
end
end

noncomputable def DtC (c : Value) : Prop := c = .type "list" ∨ c = .type "tuple" ∨ c = .type "dict"
theorem DtC.ne {c : Value} (h : DtC c) : c ≠ .type "frame" := by rcases h with rfl | rfl | rfl <;> decide
theorem ne_list : Value.type "list" ≠ .type "frame" := by decide
theorem ne_tuple : Value.type "tuple" ≠ .type "frame" := by decide
section
variable {prog : Program} {w : World} {h h' : Heap} {P P' : Addr → Prop}
theorem Rp.ind {M : Value → PyData → Prop} {L : List Value → List PyData → Prop} (h0 : M .none .none) (h1 : ∀ b, M (.bool b) (.bool b)) (h2 : ∀ i t, M (.int i t) (.int i))
    (h3 : ∀ x t, PyData.strOk x = true → x.length ≤ LIM → M (.str x t) (.str x))
    (h4 : ∀ {a : Addr} {vs : List Value} {n : Nat} {xs : List PyData}, P a → h.get? a = some { cls := .type "list", data := .seq vs.toArray n } → xs.length ≤ LIM → RpL prog w h P vs xs → L vs xs → M (.ref a) (.list xs))
    (h5 : ∀ {a : Addr} {vs : List Value} {n : Nat} {xs : List PyData}, P a → h.get? a = some { cls := .type "tuple", data := .seq vs.toArray n } → xs.length ≤ LIM → RpL prog w h P vs xs → L vs xs → M (.ref a) (.tuple xs))
    (h6 : ∀ {a : Addr} {kvs : List (Int × Value)} {ds : List PyData}, P a → (a == sysModules) = false → h.DictOf (intKind prog w) a kvs → ds.length ≤ LIM → RpL prog w h P (kvs.map (·.2)) ds → L (kvs.map (·.2)) ds → M (.ref a) (.dict (zipD (kvs.map (·.1)) ds)))
    (h7 : L [] []) (h8 : ∀ {v : Value} {vs : List Value} {d : PyData} {ds : List PyData}, Rp prog w h P v d → RpL prog w h P vs ds → M v d → L vs ds → L (v :: vs) (d :: ds)) :
    (∀ {v : Value} {d : PyData}, Rp prog w h P v d → M v d) ∧ (∀ {vs : List Value} {ds : List PyData}, RpL prog w h P vs ds → L vs ds) :=
  ⟨fun r => Rp.rec (motive_1 := fun v d _ => M v d) (motive_2 := fun vs ds _ => L vs ds) h0 h1 h2 h3 h4 h5 h6 h7 h8 r, fun r => RpL.rec (motive_1 := fun v d _ => M v d) (motive_2 := fun vs ds _ => L vs ds) h0 h1 h2 h3 h4 h5 h6 h7 h8 r⟩
theorem Rp.to_ind (hP : ∀ a, P a → P' a) (hk : ∀ a o, P a → h.get? a = some o → DtC o.cls → h'.get? a = some o) : (∀ {v : Value} {d : PyData}, Rp prog w h P v d → Rp prog w h' P' v d) ∧ (∀ {vs : List Value} {ds : List PyData}, RpL prog w h P vs ds → RpL prog w h' P' vs ds) :=
  Rp.ind (M := fun v d => Rp prog w h' P' v d) (L := fun vs ds => RpL prog w h' P' vs ds) .none .bool .int .str (fun p g l _ r => .list (hP _ p) (hk _ _ p g (.inl rfl)) l r) (fun p g l _ r => .tuple (hP _ p) (hk _ _ p g (.inr (.inl rfl))) l r)
    (fun p q g l _ r => .dict (hP _ p) q (by
      obtain ⟨o, es, ep, ho, he, rest⟩ := g
      exact ⟨o, es, ep, hk _ _ p ho (.inr (.inr he.1)), he, rest⟩) l r) .nil (fun _ _ r rs => .cons r rs)
theorem Rp.to (hP : ∀ a, P a → P' a) (hk : ∀ a o, P a → h.get? a = some o → DtC o.cls → h'.get? a = some o) {v : Value} {d : PyData} (r : Rp prog w h P v d) : Rp prog w h' P' v d := (Rp.to_ind hP hk).1 r
theorem RpL.to (hP : ∀ a, P a → P' a) (hk : ∀ a o, P a → h.get? a = some o → DtC o.cls → h'.get? a = some o) {vs : List Value} {ds : List PyData} (r : RpL prog w h P vs ds) : RpL prog w h' P' vs ds := (Rp.to_ind hP hk).2 r
theorem there_of {a : Addr} {o : Obj} (p : P a) (g : h.get? a = some o) : P a ∧ a < h.objs.size ∧ h.get? a ≠ Option.none := ⟨p, Heap.lt_size g, g ▸ nofun⟩
theorem Rp.there_ind : (∀ {v : Value} {d : PyData}, Rp prog w h P v d → Rp prog w h (fun a => P a ∧ a < h.objs.size ∧ h.get? a ≠ Option.none) v d) ∧ (∀ {vs : List Value} {ds : List PyData}, RpL prog w h P vs ds → RpL prog w h (fun a => P a ∧ a < h.objs.size ∧ h.get? a ≠ Option.none) vs ds) :=
  Rp.ind .none .bool .int .str (fun p g l _ r => .list (there_of p g) g l r) (fun p g l _ r => .tuple (there_of p g) g l r) (fun p q g l _ r => .dict (let ⟨_, _, _, ho, _⟩ := g; there_of p ho) q g l r) .nil (fun _ _ r rs => .cons r rs)
theorem Rp.there {v : Value} {d : PyData} (r : Rp prog w h P v d) : Rp prog w h (fun a => P a ∧ a < h.objs.size ∧ h.get? a ≠ Option.none) v d := Rp.there_ind.1 r
theorem RpL.there {vs : List Value} {ds : List PyData} (r : RpL prog w h P vs ds) : RpL prog w h (fun a => P a ∧ a < h.objs.size ∧ h.get? a ≠ Option.none) vs ds := Rp.there_ind.2 r
theorem Rp.kp {v : Value} {d : PyData} (r : Rp prog w h P v d) {hb : Heap} (k : Kp hb h h') : Rp prog w h' P v d := r.to (fun _ p => p) fun a o _ e c => k.obj a o e c.ne
theorem RpL.kp {vs : List Value} {ds : List PyData} (r : RpL prog w h P vs ds) {hb : Heap} (k : Kp hb h h') : RpL prog w h' P vs ds := r.to (fun _ p => p) fun a o _ e c => k.obj a o e c.ne
theorem Rp.mono {v : Value} {d : PyData} (r : Rp prog w h P v d) (hP : ∀ a, P a → P' a) : Rp prog w h P' v d := r.to hP fun _ _ _ e _ => e
theorem RpL.mono {vs : List Value} {ds : List PyData} (r : RpL prog w h P vs ds) (hP : ∀ a, P a → P' a) : RpL prog w h P' vs ds := r.to hP fun _ _ _ e _ => e

theorem RpL.length {vs : List Value} {ds : List PyData} (r : RpL prog w h P vs ds) : vs.length = ds.length := by
  induction vs generalizing ds with
  | nil => cases r; rfl
  | cons v vs ih => cases r with | cons _ r => simp [ih r]
theorem RpL.append {vs ws : List Value} {ds es : List PyData} (r : RpL prog w h P vs ds) (q : RpL prog w h P ws es) : RpL prog w h P (vs ++ ws) (ds ++ es) := by
  induction vs generalizing ds with
  | nil => cases r; exact q
  | cons v vs ih => cases r with | cons a r => exact .cons a (ih r)
theorem RpL.get {vs : List Value} {ds : List PyData} (r : RpL prog w h P vs ds) {k : Nat} {d : PyData} (hk : ds[k]? = some d) : ∃ v, vs[k]? = some v ∧ Rp prog w h P v d := by
  induction vs generalizing ds k with
  | nil => cases r; simp at hk
  | cons v vs ih =>
    cases r with
    | cons a r =>
      cases k with
      | zero => simp at hk; subst hk; exact ⟨v, rfl, a⟩
      | succ k => simp at hk; simpa using ih r hk
theorem RpL.take {vs : List Value} {ds : List PyData} (r : RpL prog w h P vs ds) (k : Nat) : RpL prog w h P (vs.take k) (ds.take k) := by
  induction vs generalizing ds k with
  | nil => cases r; simpa using RpL.nil
  | cons v vs ih =>
    cases r with
    | cons a r =>
      cases k with
      | zero => simpa using RpL.nil
      | succ k => simpa using RpL.cons a (ih r k)
theorem RpL.drop {vs : List Value} {ds : List PyData} (r : RpL prog w h P vs ds) (k : Nat) : RpL prog w h P (vs.drop k) (ds.drop k) := by
  induction vs generalizing ds k with
  | nil => cases r; simpa using RpL.nil
  | cons v vs ih =>
    cases r with
    | cons a r =>
      cases k with
      | zero => simpa using RpL.cons a r
      | succ k => simpa using ih r k
theorem RpL.set {vs : List Value} {ds : List PyData} (r : RpL prog w h P vs ds) {v : Value} {d : PyData} (q : Rp prog w h P v d) (k : Nat) : RpL prog w h P (vs.set k v) (ds.set k d) := by
  induction vs generalizing ds k with
  | nil => cases r; simpa using RpL.nil
  | cons v vs ih =>
    cases r with
    | cons a r =>
      cases k with
      | zero => simpa using RpL.cons q r
      | succ k => simpa using RpL.cons a (ih r k)
theorem RpL.replicate {v : Value} {d : PyData} (q : Rp prog w h P v d) : ∀ k : Nat, RpL prog w h P (List.replicate k v) (List.replicate k d)
  | 0 => .nil
  | k + 1 => .cons q (RpL.replicate q k)
theorem canLay_list {xs : List PyData} (c : (PyData.list xs).canLay0 = true) : PyData.canLayAll0 xs = true := by simpa [PyData.canLay0] using c
theorem canLay_tuple {xs : List PyData} (c : (PyData.tuple xs).canLay0 = true) : PyData.canLayAll0 xs = true := by simpa [PyData.canLay0] using c
theorem Rp.reads_ind : (∀ {v : Value} {d : PyData}, Rp prog w h P v d → d.canLay0 = true → ∃ as, Reads h v d as) ∧ (∀ {vs : List Value} {ds : List PyData}, RpL prog w h P vs ds → PyData.canLayAll0 ds = true → ∃ as, ReadsAll h vs ds as) := by
  refine Rp.ind (M := fun v d => d.canLay0 = true → ∃ as, Reads h v d as) (L := fun vs ds => PyData.canLayAll0 ds = true → ∃ as, ReadsAll h vs ds as) (fun _ => ⟨_, .none⟩) (fun b _ => ⟨_, .bool b⟩) (fun i t _ => ⟨_, .int i t⟩) (fun x t _ _ _ => ⟨_, .str x t⟩) (fun _ g _ _ r c => ?_) (fun _ g _ _ r c => ?_) (fun _ _ _ _ _ _ c => ?_) (fun _ => ⟨_, .nil⟩) (fun _ _ r rs c => ?_)
  · obtain ⟨as, q⟩ := r (canLay_list c)
    exact ⟨_, .list g rfl rfl (by simpa using q)⟩
  · obtain ⟨as, q⟩ := r (canLay_tuple c)
    exact ⟨_, .tuple g rfl rfl (by simpa using q)⟩
  · simp [PyData.canLay0] at c
  · simp only [PyData.canLayAll0, Bool.and_eq_true] at c
    obtain ⟨as, q⟩ := r c.1
    obtain ⟨bs, p⟩ := rs c.2
    exact ⟨_, .cons q p⟩
theorem Rp.reads {v : Value} {d : PyData} (r : Rp prog w h P v d) (c : d.canLay0 = true) : ∃ as, Reads h v d as := Rp.reads_ind.1 r c
theorem RpL.reads {vs : List Value} {ds : List PyData} (r : RpL prog w h P vs ds) (c : PyData.canLayAll0 ds = true) : ∃ as, ReadsAll h vs ds as := Rp.reads_ind.2 r c
end

end Mine

-- M4
namespace Mine
open PySem PySem.Calls PyProof.Rows

structure Nx (hb : Heap) (s s' : Shared) : Prop where
  os : s'.os = s.os
  kp : Kp hb s.heap s'.heap
  gens : AllBare s.gens → AllBare s'.gens

section
variable {hb : Heap} {s s' s'' : Shared}
theorem Nx.refl (s : Shared) : Nx hb s s := ⟨rfl, .refl _, id⟩
theorem Nx.trans (x : Nx hb s s') (y : Nx hb s' s'') : Nx hb s s'' := ⟨y.os.trans x.os, x.kp.trans y.kp, fun g => y.gens (x.gens g)⟩
theorem Nx.toks (s : Shared) (t : Nat) : Nx hb s { s with toks := t } := ⟨rfl, .refl _, id⟩
theorem Nx.push' (s : Shared) (o : Obj) : Nx hb s { s with heap := s.heap.push o } := ⟨rfl, .push _ _, id⟩
theorem Nx.heap {h' : Heap} {t : Nat} (hk : ∀ b o, s.heap.get? b = some o → h'.get? b = some o) : Nx hb s { s with heap := h', toks := t } := ⟨rfl, .strict hk, id⟩
theorem Nx.heap' {h' : Heap} (hk : ∀ b o, s.heap.get? b = some o → h'.get? b = some o) : Nx hb s { s with heap := h' } := ⟨rfl, .strict hk, id⟩
end

noncomputable def XIn (X : Addr → Prop) (h : Heap) : Prop := ∀ a, X a → h.get? a ≠ none
theorem XIn.new {X : Addr → Prop} {h : Heap} (x : XIn X h) {a : Addr} (e : h.get? a = none) : ¬ X a := fun q => x a q e
theorem get_size (h : Heap) : h.get? h.objs.size = none := by
  cases q : h.get? h.objs.size with
  | none => rfl
  | some o => exact absurd (Heap.lt_size q) (Nat.lt_irrefl _)
theorem XIn.size {X : Addr → Prop} {h : Heap} (x : XIn X h) : ¬ X h.objs.size := x.new (get_size h)
theorem XIn.kp {X : Addr → Prop} {hb h h' : Heap} (x : XIn X h) (k : Kp hb h h') : XIn X h' := fun a q => k.some (x a q)

section
variable (prog : Program) (w : World)
noncomputable def Sm (h : Heap) (X : Addr → Prop) (v : Value) (d : PyData) : Prop :=
  Rp prog w h (fun a => ¬ X a) v d ∨ ∃ a vs n ds, d = .list ds ∧ v = .ref a ∧ h.get? a = some { cls := .type "list", data := .seq (List.toArray vs) n } ∧ ds.length ≤ LIM ∧ RpL prog w h (fun a => ¬ X a) vs ds
end

section
variable {prog : Program} {w : World} {h h' hb : Heap} {X : Addr → Prop} {v : Value} {d : PyData}
theorem Sm.kp (r : Sm prog w h X v d) (k : Kp hb h h') : Sm prog w h' X v d := by
  rcases r with r | ⟨a, vs, n, ds, e1, e2, g, l, r⟩
  · exact .inl (r.kp k)
  · exact .inr ⟨a, vs, n, ds, e1, e2, k.obj _ _ g ne_list, l, r.kp k⟩
theorem Sm.int {i : Int} (r : Sm prog w h X v (.int i)) : ∃ t, v = .int i t := by
  rcases r with r | ⟨a, vs, n, ds, e1, _⟩
  · cases r with | int i t => exact ⟨t, rfl⟩
  · cases e1
theorem Sm.str {x : Str} (r : Sm prog w h X v (.str x)) : ∃ t, v = .str x t ∧ PyData.strOk x = true ∧ x.length ≤ LIM := by
  rcases r with r | ⟨a, vs, n, ds, e1, _⟩
  · cases r with | str x t h1 h2 => exact ⟨t, rfl, h1, h2⟩
  · cases e1
theorem Sm.bool {b : Bool} (r : Sm prog w h X v (.bool b)) : v = .bool b := by
  rcases r with r | ⟨a, vs, n, ds, e1, _⟩
  · cases r; rfl
  · cases e1
theorem Sm.none (r : Sm prog w h X v .none) : v = .none := by
  rcases r with r | ⟨a, vs, n, ds, e1, _⟩
  · cases r; rfl
  · cases e1
theorem Sm.list {ds : List PyData} (r : Sm prog w h X v (.list ds)) :
    ∃ a vs n, v = .ref a ∧ h.get? a = some { cls := .type "list", data := .seq (List.toArray vs) n } ∧ ds.length ≤ LIM ∧ RpL prog w h (fun a => ¬ X a) vs ds := by
  rcases r with r | ⟨a, vs, n, ds', e1, e2, g, l, r⟩
  · cases r with | list p g l r => exact ⟨_, _, _, rfl, g, l, r⟩
  · cases e1; exact ⟨a, vs, n, e2, g, l, r⟩
theorem Sm.tuple {ds : List PyData} (r : Sm prog w h X v (.tuple ds)) :
    ∃ a vs n, v = .ref a ∧ h.get? a = some { cls := .type "tuple", data := .seq (List.toArray vs) n } ∧ ds.length ≤ LIM ∧ RpL prog w h (fun a => ¬ X a) vs ds := by
  rcases r with r | ⟨a, vs, n, ds', e1, e2, g, l, r⟩
  · cases r with | tuple p g l r => exact ⟨_, _, _, rfl, g, l, r⟩
  · cases e1
theorem Sm.dict {kv : List (PyData × PyData)} (r : Sm prog w h X v (.dict kv)) :
    ∃ a kvs ds, v = .ref a ∧ ¬ X a ∧ (a == sysModules) = false ∧ kv = zipD (kvs.map (·.1)) ds ∧ h.DictOf (intKind prog w) a kvs ∧ ds.length ≤ LIM ∧ RpL prog w h (fun a => ¬ X a) (kvs.map (·.2)) ds := by
  rcases r with r | ⟨a, vs, n, ds', e1, _⟩
  · cases r with | dict p q g l r => exact ⟨_, _, _, rfl, p, q, rfl, g, l, r⟩
  · cases e1
theorem Sm.reads (r : Sm prog w h X v d) (c : d.canLay0 = true) : ∃ as, Reads h v d as := by
  rcases r with r | ⟨a, vs, n, ds', rfl, rfl, g, l, r⟩
  · exact r.reads c
  · obtain ⟨as, q⟩ := r.reads (by simpa [PyData.canLay0] using c)
    exact ⟨_, .list g rfl rfl (by simpa using q)⟩

theorem Rp.sm (r : Rp prog w h (fun a => ¬ X a) v d) : Sm prog w h X v d := .inl r
end

theorem LIM_eq : LIM = 1048576 := rfl

theorem Rp.newList {prog : Program} {w : World} {h : Heap} {X : Addr → Prop} {vs : List Value} {ds : List PyData} (hX : XIn X h) (r : RpL prog w h (fun a => ¬ X a) vs ds) (hl : ds.length ≤ LIM) :
    Rp prog w (h.push { cls := .type "list", data := .seq vs.toArray }) (fun a => ¬ X a) (.ref h.objs.size) (.list ds) :=
  .list hX.size (Heap.get?_push_size _ rfl) hl (r.kp (hb := h) (.push _ _))
theorem Rp.newTuple {prog : Program} {w : World} {h : Heap} {X : Addr → Prop} {vs : List Value} {ds : List PyData} (hX : XIn X h) (r : RpL prog w h (fun a => ¬ X a) vs ds) (hl : ds.length ≤ LIM) :
    Rp prog w (h.push { cls := .type "tuple", data := .seq vs.toArray }) (fun a => ¬ X a) (.ref h.objs.size) (.tuple ds) :=
  .tuple hX.size (Heap.get?_push_size _ rfl) hl (r.kp (hb := h) (.push _ _))


theorem fdiv_pos {a b : Int} (hb : 0 < b) : a.fdiv b = a / b := Int.fdiv_eq_ediv_of_nonneg a (Int.le_of_lt hb)
theorem fmod_pos {a b : Int} (hb : 0 < b) : a.fmod b = a % b := Int.fmod_eq_emod_of_nonneg a (Int.le_of_lt hb)

theorem foldl_rep (x : Value) : ∀ (n : Nat) (acc : Array Value), List.foldl (fun x1 x2 => x1 ++ x2) acc (List.replicate n #[x]) = acc ++ (List.replicate n x).toArray
  | 0, acc => by simp
  | n + 1, acc => by
    rw [List.replicate_succ, List.foldl_cons, foldl_rep x n]
    apply Array.ext'
    simp [List.replicate_succ]

theorem size_lim {n : Nat} (h : n ≤ LIM) : n ≤ sizeLine := by rw [LIM_eq] at h; rw [sizeLine_eq]; omega

section
variable {prog : Program} {w : World} {A : Around} {E : Value → Shared → Prop} {s : Shared} {hb : Heap} {X : Addr → Prop} {a b : Value} {da db d : PyData} {Q : Value → Shared → Prop}

theorem mul_list1 {l : Addr} {x : Value} {k : Nat} {n : Int} {u : Tok} (hl : s.heap.get? l = some { cls := .type "list", data := .seq #[x] k }) (hn : n ≤ 1048576) (hlo : -(2 ^ 63 : Int) ≤ n)
    (h : Q (.ref s.heap.objs.size) { s with heap := s.heap.push { cls := .type "list", data := .seq (List.replicate n.toNat x).toArray } }) : wpAny (model prog w) A (binaryOp .Mult (.ref l) (.int n u)) Q E s := by
  have hn' : n.toNat ≤ 1048576 := by omega
  refine wpAny_binaryOp_repeat_ref (T := "list") (U := "int") (by decide) ⟨_, hl, rfl⟩ (fun s' => typeIs_int s' n u) noFill_list_mul F.fills_int_mul F.slot_int_rmul repeat_list F.slot_int_index.lookup
    (call_meets F.slot_int_rmul (typeIs_int s n u) F.entry_int_rmul (F.args_int_rmul_2 _ _) (int___rmul___int_list n u l #[x] k)
      ⟨hl, rfl, ⟨_, hl, rfl⟩, call_meets F.slot_list_mul ⟨_, hl, rfl⟩ F.entry_list_mul (F.args_list_mul_2 _ _)
        (AutoListH.list___mul___list_int_3 l #[x] k n u (by simp [Builtin.List.listFitsIndex]; omega) (by simp; omega) (by simp [Builtin.List.listTooLong, sizeLine]; omega))
        ⟨hl, ?_⟩⟩)
  have e : (if (#[x] : Array Value).isEmpty = true then 0 else n.toNat) = n.toNat := by simp
  rw [e, foldl_rep]
  simpa using h
end

end Mine

-- M5
namespace Mine
open PySem PySem.Calls PyProof.Rows

noncomputable def NewL (s : Shared) (v : Value) (d : PyData) : Prop := ∀ ds, d = .list ds → ∃ a, v = .ref a ∧ s.heap.get? a = none

section
variable {prog : Program} {w : World} {A : Around} {E : Value → Shared → Prop} {s : Shared} {hb : Heap} {X : Addr → Prop} {a b : Value} {da db d : PyData} {Q : Value → Shared → Prop}

theorem stuck_ne {d : PyData} {P : Prop} (h : R.stuck = R.ok d) : P := nomatch h
theorem intO_ok {f : Int → Int → R PyData} (hd : intO f da db = .ok d) : ∃ i j, da = .int i ∧ db = .int j ∧ f i j = .ok d := by
  cases da with
  | int i =>
    cases db with
    | int j => exact ⟨i, j, rfl, rfl, hd⟩
    | _ => exact stuck_ne hd
  | _ => exact stuck_ne hd
theorem ite_ok {c : Prop} [Decidable c] {x d : PyData} (h : (if c then R.ok x else R.stuck) = R.ok d) : c ∧ x = d := by
  by_cases q : c
  · rw [if_pos q] at h; cases h; exact ⟨q, rfl⟩
  · rw [if_neg q] at h; cases h
theorem op_add (hX : XIn X s.heap) (ra : Sm prog w s.heap X a da) (rb : Sm prog w s.heap X b db) (hd : addD da db = .ok d)
    (h : ∀ v s', Nx hb s s' → Rp prog w s'.heap (fun a => ¬ X a) v d → NewL s v d → Q v s') : wpAny (model prog w) A (binaryOp .Add a b) Q E s := by
  cases da with
  | int i =>
    cases db with
    | int j =>
      cases hd
      obtain ⟨t, rfl⟩ := ra.int
      obtain ⟨u, rfl⟩ := rb.int
      exact PyProof.Rows.add_int (h _ _ (.toks _ _) (.int _ _) fun ds e => nomatch e)
    | _ => exact stuck_ne hd
  | list x =>
    cases db with
    | list y =>
      obtain ⟨hlen, rfl⟩ := ite_ok hd
      obtain ⟨l, vs, n, rfl, g, _, rl⟩ := ra.list
      obtain ⟨l', vs', n', rfl, g', _, rl'⟩ := rb.list
      have e1 := rl.length
      have e2 := rl'.length
      refine PySem.P.add_list (n := n) (n2 := n') g g' ?_ (by simp only [List.size_toArray]; rw [e1, e2]; exact size_lim hlen)
      have := Rp.newList (prog := prog) (w := w) hX (rl.append rl') (by rw [List.length_append]; exact hlen)
      refine h _ _ (.push' _ _) ?_ (fun _ _ => ⟨_, rfl, get_size _⟩)
      simpa using this
    | _ => exact stuck_ne hd
  | str x =>
    cases db with
    | str y =>
      obtain ⟨hlen, rfl⟩ := ite_ok hd
      obtain ⟨t, rfl, h1, h2⟩ := ra.str
      obtain ⟨u, rfl, h3, h4⟩ := rb.str
      refine PyProof.Rows.add_str (fun t' tk => h _ _ (.toks _ _) (.str _ _ ?_ ?_) fun ds e => nomatch e) (size_lim hlen)
      · simp only [PyData.strOk] at h1 h3 ⊢
        rw [Str.cps_append]
        simp only [Array.all_append, h1, h3, Bool.and_self]
      · rw [Str.length_append]; exact hlen
    | _ => exact stuck_ne hd
  | _ => exact stuck_ne hd
theorem op_mul (hX : XIn X s.heap) (ra : Sm prog w s.heap X a da) (rb : Sm prog w s.heap X b db) (hd : mulD da db = .ok d)
    (h : ∀ v s', Nx hb s s' → Rp prog w s'.heap (fun a => ¬ X a) v d → NewL s v d → Q v s') : wpAny (model prog w) A (binaryOp .Mult a b) Q E s := by
  cases da with
  | int i =>
    cases db with
    | int j =>
      obtain ⟨hc, rfl⟩ := ite_ok hd
      obtain ⟨t, rfl⟩ := ra.int
      obtain ⟨u, rfl⟩ := rb.int
      exact PyProof.Rows.mul_int (h _ _ (.toks _ _) (.int _ _) fun ds e => nomatch e) (IntMulOk.of_left (intBits_le_64 (by omega) (by omega)))
    | _ => exact stuck_ne hd
  | list x =>
    cases db with
    | int j =>
      cases x with
      | nil => exact stuck_ne hd
      | cons x xs =>
        cases xs with
        | cons _ _ => exact stuck_ne hd
        | nil =>
          obtain ⟨hn, rfl⟩ := ite_ok hd
          obtain ⟨l, vs, k, rfl, g, _, rl⟩ := ra.list
          obtain ⟨u, rfl⟩ := rb.int
          cases rl with
          | cons r rl =>
            cases rl
            refine mul_list1 (k := k) g hn.2 (by omega) (h _ _ (.push' _ _) ?_ (fun _ _ => ⟨_, rfl, get_size _⟩))
            exact Rp.newList hX (RpL.replicate r _) (by rw [List.length_replicate, LIM_eq]; omega)
    | _ => exact stuck_ne hd
  | _ => exact stuck_ne hd
theorem op_bin {o : BinO} (hX : XIn X s.heap) (ra : Sm prog w s.heap X a da) (rb : Sm prog w s.heap X b db) (hd : binD o da db = .ok d)
    (h : ∀ v s', Nx hb s s' → Rp prog w s'.heap (fun a => ¬ X a) v d → NewL s v d → Q v s') : wpAny (model prog w) A (binaryOp (opOf o) a b) Q E s := by
  cases o with
  | add => exact op_add hX ra rb hd h
  | mul => exact op_mul hX ra rb hd h
  | sub =>
    obtain ⟨i, j, rfl, rfl, hd⟩ := intO_ok hd
    cases hd
    obtain ⟨t, rfl⟩ := ra.int
    obtain ⟨u, rfl⟩ := rb.int
    exact PyProof.Rows.sub_int (h _ _ (.toks _ _) (.int _ _) fun ds e => nomatch e)
  | fdiv =>
    obtain ⟨i, j, rfl, rfl, hd⟩ := intO_ok hd
    obtain ⟨hc, rfl⟩ := ite_ok hd
    obtain ⟨t, rfl⟩ := ra.int
    obtain ⟨u, rfl⟩ := rb.int
    refine PyProof.Rows.floordiv_int (by omega) ?_ (Or.inl (PyProof.noPylong_small (by omega)))
    rw [fdiv_pos hc.1]
    exact h _ _ (.toks _ _) (.int _ _) fun ds e => nomatch e
  | mod =>
    obtain ⟨i, j, rfl, rfl, hd⟩ := intO_ok hd
    obtain ⟨hc, rfl⟩ := ite_ok hd
    obtain ⟨t, rfl⟩ := ra.int
    obtain ⟨u, rfl⟩ := rb.int
    refine PyProof.Rows.mod_int (by omega) ?_
    rw [fmod_pos hc.1]
    exact h _ _ (.toks _ _) (.int _ _) fun ds e => nomatch e

theorem and_tt {a b : Bool} (h : (a && b) = true) : a = true ∧ b = true := Bool.and_eq_true_iff.mp h
theorem shaped_lay {d : PyData} (h : SeqAt.shaped d = true) : d.canLay0 = true := SeqAt.canLay_of_shaped h

theorem eqO_ok {q : Bool} (ra : Sm prog w s.heap X a da) (rb : Sm prog w s.heap X b db) (hd : eqO q da db = .ok d) :
    ∃ as bs, Reads s.heap a da as ∧ Reads s.heap b db bs ∧ SeqAt.shaped da = true ∧ SeqAt.shaped db = true ∧ d = .bool (PyData.eqv da db == q) := by
  obtain ⟨hc, e⟩ := ite_ok hd
  have hc := and_tt hc
  obtain ⟨as, r1⟩ := ra.reads (shaped_lay hc.1)
  obtain ⟨bs, r2⟩ := rb.reads (shaped_lay hc.2)
  exact ⟨as, bs, r1, r2, hc.1, hc.2, e.symm⟩
theorem inO_ok {q : Bool} (ra : Sm prog w s.heap X a da) (rb : Sm prog w s.heap X b db) (hd : inO q da db = .ok d) :
    ∃ xs as bs, db = .list xs ∧ Reads s.heap a da as ∧ Reads s.heap b (.list xs) bs ∧ PyData.canLayAll0 xs = true ∧ SeqAt.shaped da = true ∧ d = .bool ((xs.any fun y => PyData.eqv y da) == q) := by
  cases db with
  | list xs =>
    obtain ⟨hc, e⟩ := ite_ok hd
    have hc := and_tt hc
    obtain ⟨as, r1⟩ := ra.reads (shaped_lay hc.2)
    obtain ⟨bs, r2⟩ := rb.reads (shaped_lay hc.1)
    exact ⟨xs, as, bs, rfl, r1, r2, by simpa [PyData.canLay0] using shaped_lay hc.1, hc.2, e.symm⟩
  | _ => exact stuck_ne hd
theorem op_cmp {o : CmpO} (hu : A.units + 70 < cLine) (ra : Sm prog w s.heap X a da) (rb : Sm prog w s.heap X b db) (hd : cmpD o da db = .ok d)
    (h : ∀ x, d = .bool x → Q (.bool x) s) : wpAny (model prog w) A (compareOp (cmpOf o) a b) Q E s := by
  cases o with
  | eq =>
    obtain ⟨as, bs, r1, r2, h1, h2, e⟩ := eqO_ok ra rb hd
    exact eq_dataH r1 r2 h1 h2 (by omega) (h _ (e.trans (congrArg _ (beq_true _))))
  | ne =>
    obtain ⟨as, bs, r1, r2, h1, h2, e⟩ := eqO_ok ra rb hd
    exact ne_dataH r1 r2 h1 h2 (by omega) (h _ (e.trans (congrArg _ (beq_false _))))
  | isin =>
    obtain ⟨xs, as, bs, rfl, r1, r2, h1, h2, e⟩ := inO_ok ra rb hd
    have dp := SeqAt.depth_of_shaped h2
    exact SeqAt.in_list_reads r2 r1 h1 (shaped_lay h2) (by omega) (h _ (e.trans (congrArg _ (beq_true _))))
  | notin =>
    obtain ⟨xs, as, bs, rfl, r1, r2, h1, h2, e⟩ := inO_ok ra rb hd
    have dp := SeqAt.depth_of_shaped h2
    exact SeqAt.notIn_list_reads r2 r1 h1 (shaped_lay h2) (by omega) (h _ (e.trans (congrArg _ (beq_false _))))
  | lt =>
    obtain ⟨i, j, rfl, rfl, hd⟩ := intO_ok hd
    cases hd
    obtain ⟨t, rfl⟩ := ra.int
    obtain ⟨u, rfl⟩ := rb.int
    exact PyProof.Rows.lt_int (h _ rfl)
  | le =>
    obtain ⟨i, j, rfl, rfl, hd⟩ := intO_ok hd
    cases hd
    obtain ⟨t, rfl⟩ := ra.int
    obtain ⟨u, rfl⟩ := rb.int
    exact PyProof.Rows.le_int (h _ rfl)
  | gt =>
    obtain ⟨i, j, rfl, rfl, hd⟩ := intO_ok hd
    cases hd
    obtain ⟨t, rfl⟩ := ra.int
    obtain ⟨u, rfl⟩ := rb.int
    exact PyProof.Rows.gt_int (h _ rfl)
  | ge =>
    obtain ⟨i, j, rfl, rfl, hd⟩ := intO_ok hd
    cases hd
    obtain ⟨t, rfl⟩ := ra.int
    obtain ⟨u, rfl⟩ := rb.int
    exact PyProof.Rows.ge_int (h _ rfl)

theorem nth_some {xs : List PyData} {i : Int} {d : PyData} (h : nth xs i = some d) : ∃ j, seqIndex? i xs.length = some j ∧ xs[j]? = some d ∧ (i < xs.length) ∧ (-(xs.length : Int) ≤ i) := by
  unfold nth at h
  split at h
  · rename_i h0
    have hl : i.toNat < xs.length := (List.getElem?_eq_some_iff.mp h).1
    exact ⟨i.toNat, seqIndex_of h0 (by omega), h, by omega, by omega⟩
  · split at h
    · rename_i h0 h1
      exact ⟨_, PySem.seqIndex_neg (by omega) (by omega), h, by omega, h1⟩
    · cases h

theorem getItem_plain {l : Addr} {vs : List Value} {n : Nat} {xs : List PyData} {i : Int} {u : Tok} (g : s.heap.get? l = some { cls := .type "list", data := .seq vs.toArray n }) (hl : xs.length ≤ LIM) (r : RpL prog w s.heap (fun a => ¬ X a) vs xs)
    (hd : nth xs i = some d) (h : ∀ v, Rp prog w s.heap (fun a => ¬ X a) v d → Q v s) : wpAny (model prog w) A (getItem (.ref l) (.int i u)) Q E s := by
  obtain ⟨j, h1, h2, h3, h4⟩ := nth_some hd
  obtain ⟨v, hv, rv⟩ := r.get h2
  have hl' : xs.length ≤ 1048576 := hl
  have e : vs.length = xs.length := r.length
  by_cases h0 : 0 ≤ i
  · have : j = i.toNat := by
      rw [seqIndex_of h0 h3] at h1
      exact (Option.some.inj h1).symm
    subst this
    exact wpAny_getItem_list ⟨_, g, rfl, n, rfl⟩ h0 (by omega) (by simpa using hv) (h v rv)
  · have : j = (i + xs.length).toNat := by
      rw [PySem.seqIndex_neg (by omega) (by omega)] at h1
      exact (Option.some.inj h1).symm
    subst this
    exact wpAny_getItem_list_neg ⟨_, g, rfl, n, rfl⟩ (by omega) (by simp; omega) (by omega) (by simpa [e] using hv) (h v rv)
end
end Mine

-- M6
namespace Mine
open PySem PySem.Calls PyProof.Rows

section
variable {prog : Program} {w : World} {A : Around} {E : Value → Shared → Prop} {s : Shared} {hb : Heap} {X : Addr → Prop} {a b : Value} {da db d : PyData} {Q : Value → Shared → Prop}

theorem isList_of {h : Heap} {l : Addr} {vs : List Value} {n : Nat} (g : h.get? l = some { cls := .type "list", data := .seq vs.toArray n }) : h.IsList l vs.toArray := ⟨_, g, rfl, n, rfl⟩
theorem isTup_of {h : Heap} {l : Addr} {vs : List Value} {n : Nat} (g : h.get? l = some { cls := .type "tuple", data := .seq vs.toArray n }) : IsTup h l vs.toArray := ⟨_, g, rfl, n, rfl⟩

theorem dget_zip : ∀ {kvs : List (Int × Value)} {ds : List PyData} {k : Int} {h : Heap} {P : Addr → Prop}, RpL prog w h P (kvs.map (·.2)) ds → dget (zipD (kvs.map (·.1)) ds) k = some d → ∃ v, valueAt kvs k = some v ∧ Rp prog w h P v d
  | [], _, _, _, _, r, e => by
    cases r
    simp [zipD, dget] at e
  | (j, v) :: kvs, ds, k, h, P, r, e => by
    simp only [List.map_cons] at r e
    cases r with
    | cons r rs =>
      simp only [zipD, dget] at e
      split at e
      · rename_i hjk
        cases e
        exact ⟨v, by simp [valueAt, hjk], r⟩
      · rename_i hjk
        obtain ⟨v', h1, h2⟩ := dget_zip rs e
        refine ⟨v', ?_, h2⟩
        unfold valueAt at h1 ⊢
        rw [List.find?_cons_of_neg (by simpa using hjk)]
        exact h1

theorem op_idx {value slice : Expr} {i : Value} {di : PyData} (hs : ∀ o k, subscripted slice false o k = operate [o, k] (getItem o k)) (ra : Sm prog w s.heap X a da) (ri : Sm prog w s.heap X i di) (hd : idxD da di = .ok d)
    (h : ∀ v s', Nx hb s s' → Rp prog w s'.heap (fun a => ¬ X a) v d → Q v s') : wpAny (model prog w) A (subscriptTail value slice a i) Q E s := by
  have inv : ∀ {x : Option PyData}, (match x with | some d => R.ok d | Option.none => R.stuck) = R.ok d → x = some d := by
    intro x e
    cases x with
    | none => exact stuck_ne e
    | some y => rw [R.ok.inj e]
  cases di with
  | int i =>
    obtain ⟨t, rfl⟩ := ri.int
    cases da with
    | list xs =>
      have he := inv hd
      obtain ⟨l, vs, n, rfl, g, hl, r⟩ := ra.list
      exact tail_any (isList_of g).typeIs slot_list_getitem.lookup (getItem_plain g hl r he fun v rv => h v s (.refl _) rv) (hs _ _)
    | tuple xs =>
      have he := inv hd
      obtain ⟨l, vs, n, rfl, g, hl, r⟩ := ra.tuple
      obtain ⟨j, h1, h2, h3, h4⟩ := nth_some he
      obtain ⟨v, hv, rv⟩ := r.get h2
      have hl' : _ ≤ 1048576 := hl
      exact item_tupleT (isTup_of g) (by omega) (by omega) (by rw [r.length]; exact h1) hv (h v s (.refl _) rv) (hs _ _)
    | dict ds' =>
      have he := inv hd
      obtain ⟨l, kvs, ds, rfl, hx, _, rfl, g, hl, r⟩ := ra.dict
      obtain ⟨v, hv, rv⟩ := dget_zip r he
      exact tail_any g.typeIs slot_dict_getitem.lookup (wpAny_getItem_of (knd := intKind prog w) (by simp [intKind, Value.isInt]) g.mapOf hv (h v _ (.toks _ _) rv)) (hs _ _)
    | _ => exact stuck_ne hd
  | _ => cases da <;> exact stuck_ne hd

theorem slicePick_gen (items : List Value) (i j : Nat) : slicePick items.toArray (some (i : Int)) (some (j : Int)) none = ((items.take j).drop i).toArray := by
  have e : sliceBounds (some (i : Int)) (some (j : Int)) none items.toArray.size = (((min i items.length : Nat) : Int), ((min j items.length : Nat) : Int), 1) := by
    simp only [sliceBounds, Option.getD_none, List.size_toArray]
    have h1 : ¬ ((i : Int) < 0) := by omega
    have h2 : ¬ ((j : Int) < 0) := by omega
    simp only [h1, h2, if_false, show (1 : Int) > 0 by decide, if_true]
    congr 1
    · omega
    · congr 1; omega
  unfold slicePick
  rw [e]
  simp only [sliceRange_one, pick_run]
  congr 1
  apply List.ext_getElem?
  intro k
  simp only [List.getElem?_take, List.getElem?_drop]
  by_cases hk : k < min j items.length - min i items.length
  · rw [if_pos hk, if_pos (by omega)]
    congr 1; omega
  · rw [if_neg hk]
    split
    · symm; apply List.getElem?_eq_none; omega
    · rfl
theorem slicePick_to (items : List Value) (j : Nat) : slicePick items.toArray none (some (j : Int)) none = (items.take j).toArray := by
  have e : sliceBounds none (some (j : Int)) none items.toArray.size = (((0 : Nat) : Int), ((min j items.length : Nat) : Int), 1) := by
    simp only [sliceBounds, Option.getD_none, List.size_toArray]
    have h2 : ¬ ((j : Int) < 0) := by omega
    simp only [h2, if_false, show (1 : Int) > 0 by decide, if_true]
    congr 1
    congr 1; omega
  unfold slicePick
  rw [e]
  simp only [sliceRange_one, pick_run]
  congr 1
  simp only [Nat.sub_zero, List.drop_zero]
  rw [List.take_eq_take_iff]
  omega
theorem slicePick_fr (items : List Value) (i : Nat) : slicePick items.toArray (some (i : Int)) none none = (items.drop i).toArray := by
  have e : sliceBounds (some (i : Int)) none none items.toArray.size = (((min i items.length : Nat) : Int), ((items.length : Nat) : Int), 1) := by
    simp only [sliceBounds, Option.getD_none, List.size_toArray]
    have h1 : ¬ ((i : Int) < 0) := by omega
    simp only [h1, if_false, show (1 : Int) > 0 by decide, if_true]
    congr 1
    omega
  unfold slicePick
  rw [e]
  simp only [sliceRange_one, pick_run]
  congr 1
  apply List.ext_getElem?
  intro k
  simp only [List.getElem?_take, List.getElem?_drop]
  by_cases hk : k < items.length - min i items.length
  · rw [if_pos hk]
    congr 1; omega
  · rw [if_neg hk]
    symm; apply List.getElem?_eq_none; omega

abbrev slObj (l u : Value) : Obj := { cls := .type "slice", data := .fields #[l, u, .none] }

theorem slice_tail {value : Expr} {lo up : Option Expr} {p : Pos} {l : Addr} {vs ws : List Value} {n : Nat} {ds es : List PyData} {vl vu : Value} {i j : Option Int} (hX : XIn X s.heap)
    (g : s.heap.get? l = some { cls := .type "list", data := .seq vs.toArray n }) (hl : ds.length ≤ LIM) (r : RpL prog w s.heap (fun a => ¬ X a) vs ds)
    (pl : IsPart vl i) (pu : IsPart vu j) (hw : slicePick vs.toArray i j none = ws.toArray) (rw' : RpL prog w s.heap (fun a => ¬ X a) ws es) (hes : es.length ≤ LIM)
    (h : ∀ v s', Nx hb s s' → Rp prog w s'.heap (fun a => ¬ X a) v (.list es) → (∃ a, v = .ref a ∧ s.heap.get? a = none) → Q v s') :
    wpAny (model prog w) A (subscriptTail value (.Slice lo up none p) (.ref l) (.ref s.heap.objs.size)) Q E { s with heap := s.heap.push (slObj vl vu) } := by
  have g' : (s.heap.push (slObj vl vu)).get? l = some { cls := .type "list", data := .seq vs.toArray n } := Heap.get?_push_of_some _ g
  have k1 : Kp hb s.heap (s.heap.push (slObj vl vu)) := .push _ _
  refine tail_any (s := { s with heap := s.heap.push (slObj vl vu) }) (ops := [.ref s.heap.objs.size, .ref l]) (isList_of g').typeIs slot_list_getitem.lookup
    (wpAny_getItem_list_slice (isList_of g') (Heap.IsSliceOf.new ..) pl pu .none (by simp) ?_ (by simp only [List.size_toArray]; rw [r.length]; exact size_lim hl)) rfl
  rw [hw]
  refine h _ _ ⟨rfl, k1.trans (.push _ _), id⟩ (Rp.newList (hX.kp k1) (rw'.kp k1) hes) ⟨_, rfl, ?_⟩
  show s.heap.get? (s.heap.push (slObj vl vu)).objs.size = none
  cases q : s.heap.get? (s.heap.push (slObj vl vu)).objs.size with
  | none => rfl
  | some o =>
    have := Heap.lt_size q
    rw [Heap.size_push] at this
    exact absurd this (Nat.not_lt.mpr (Nat.le_succ _))

theorem places_run (a b n : Nat) (ha : a ≤ b) (hb : b ≤ n) : Builtin.Slice.sliceAdjust (some (a : Int)) (some (b : Int)) 1 (n : Int) = ((a : Int), (b : Int)) ∧ Builtin.Slice.slicePlaces (a : Int) (b : Int) 1 = b - a := by
  constructor
  · unfold Builtin.Slice.sliceAdjust
    have h1 : ¬ ((1 : Int) < 0) := by omega
    have h2 : ¬ ((a : Int) < 0) := by omega
    have h3 : ¬ ((b : Int) < 0) := by omega
    simp only [h1, h2, h3, if_false]
    congr 1 <;> omega
  · unfold Builtin.Slice.slicePlaces
    have h1 : (1 : Int) > 0 := by omega
    simp only [h1, if_true, Int.ediv_one]
    split <;> omega
theorem pick_tup (vs : List Value) (a k : Nat) : ((List.range k).filterMap fun (i : Nat) => vs.toArray[((a : Int) + (i : Int) * 1).toNat]?).toArray = ((vs.drop a).take k).toArray := by
  have e : (fun (k : Nat) => vs.toArray[((a : Int) + (k : Int) * 1).toNat]?) = fun k => vs.toArray[a + k]? := by
    funext k
    have : ((a : Int) + (k : Int) * 1).toNat = a + k := by omega
    rw [this]
  rw [e]
  have := pick_run vs.toArray a k
  rw [List.filterMap_map] at this
  have e2 : ((fun x => vs.toArray[x]?) ∘ fun x => a + x) = fun k => vs.toArray[a + k]? := rfl
  rw [e2] at this
  rw [this]

theorem getItem_tuple_run {t sl : Addr} {vs : List Value} {a b : Nat} {u u' : Tok} (ht : IsTup s.heap t vs.toArray) (hs : s.heap.IsSliceOf sl (.int a u) (.int b u') .none) (h1 : 1 ≤ a) (ha : a ≤ b) (hbn : b ≤ vs.length) (hsz : vs.length ≤ LIM)
    (h : Q (.ref s.heap.objs.size) { s with heap := s.heap.push { cls := .type "tuple", data := .seq ((vs.take b).drop a).toArray } }) : wpAny (model prog w) A (getItem (.ref t) (.ref sl)) Q E s := by
  have hdrop : sizeOk (.seq ((vs.drop a).take (b - a)).toArray) := by
    show ((vs.drop a).take (b - a)).toArray.size ≤ sizeLine
    rw [List.size_toArray, List.length_take, List.length_drop]
    have := size_lim hsz
    omega
  obtain ⟨os, hos, hcs, hds⟩ := id hs
  have hTs : s.TypeIs (.ref sl) "slice" := ⟨os, hos, hcs⟩
  unfold getItem
  try with_reducible refine wpAny_holding ?_
  first | refine wpAny_bind (wpAny_pure ?_) | skip
  refine wpAny_bind (wpAny_sequenceKey ht.typeIs (by decide) ?_)
  refine wpAny_bind (wpAny_callSpecial?_slot (name := Str.ofString "__getitem__") ht.typeIs slot_tuple_getitem
    (wpAny_call_entry slot_tuple_getitem ht.typeIs entry_tuple_getitem ?_ (args_tuple_getitem _ _)))
  show wpAny _ _ (Builtin.Tuple.tupleItemsOf (.ref t) >>= _) _ _ s
  refine wpAny_bind (tupleItemsOf_ ht ?_)
  refine wpAny_bind (wpAny_typeOf hTs ?_)
  rw [if_pos (by decide)]
  refine wpAny_bind ?_
  unfold Builtin.Slice.sliceApplied Builtin.Slice.sliceFields
  refine wpAny_bind (wpAny_bind (wpAny_field hos hds (x := .int a u) rfl (wpAny_bind (wpAny_field hos hds (x := .int b u') rfl (wpAny_bind (wpAny_field hos hds (x := .none) rfl (wpAny_pure ?_)))))))
  refine wpAny_bind (slicePart_none ?_)
  show wpAny _ _ (if ((1 : Int) == 0) = true then _ else _) _ _ s
  rw [if_neg (by decide)]
  refine wpAny_bind (slicePart_int (wpAny_bind (slicePart_int (wpAny_bind (wpAny_pure ?_)))))
  obtain ⟨e1, e2⟩ := places_run a b vs.toArray.size ha (by simpa using hbn)
  show wpAny _ _ (match Builtin.Slice.sliceAdjust (some (a : Int)) (some (b : Int)) 1 (vs.toArray.size : Int) with | (lo, hi) => pure (lo, (1 : Int), Builtin.Slice.slicePlaces lo hi 1)) _ _ s
  rw [e1]
  show wpAny _ _ (pure ((a : Int), (1 : Int), Builtin.Slice.slicePlaces (a : Int) (b : Int) 1)) _ _ s
  rw [e2]
  refine wpAny_pure ?_
  have hno : ¬ (((a : Int) == 0 && (1 : Int) == 1 && (b - a) == vs.toArray.size) = true) := by
    have : ((a : Int) == 0) = false := by rw [beq_eq_false_iff_ne]; omega
    rw [this]; simp
  show wpAny _ _ (if ((a : Int) == 0 && (1 : Int) == 1 && (b - a) == vs.toArray.size) = true then _ else _) _ _ s
  rw [if_neg hno, pick_tup vs a (b - a)]
  have e3 : (vs.drop a).take (b - a) = (vs.take b).drop a := by rw [List.drop_take]
  rw [e3] at hdrop ⊢
  first
    | exact wpAny_bind (m := Builtin.Tuple.tupleExact _) (wpAny_newObj_type (wpAny_pure ⟨_, rfl, wpAny_pure h⟩) hdrop)
    | exact wpAny_bind (m := Builtin.Tuple.tupleExact _) (wpAny_newObj_type (wpAny_bind (wpAny_pure (wpAny_pure ⟨_, rfl, wpAny_pure h⟩))) hdrop)
    | exact wpAny_bind (wpAny_bind (m := Builtin.Tuple.tupleExact _) (wpAny_newObj_type (wpAny_pure (wpAny_pure ⟨_, rfl, wpAny_pure h⟩)) hdrop))
    | exact wpAny_bind (wpAny_bind (m := Builtin.Tuple.tupleExact _) (wpAny_newObj_type (wpAny_pure ⟨_, rfl, wpAny_pure h⟩) hdrop))

theorem drop_take_le {xs : List PyData} {i j : Nat} (h : xs.length ≤ LIM) : ((xs.take j).drop i).length ≤ LIM :=
  Nat.le_trans (Nat.le_trans (List.length_drop ▸ Nat.sub_le _ _) (List.length_take_le' j xs)) h
theorem op_sl {value : Expr} {lo up : Option Expr} {p : Pos} {vl vu : Value} {dl du : PyData} (hX : XIn X s.heap) (ra : Sm prog w s.heap X a da) (rl : Sm prog w s.heap X vl dl) (ru : Sm prog w s.heap X vu du) (hd : slD da dl du = .ok d)
    (h : ∀ v s', Nx hb s s' → Rp prog w s'.heap (fun a => ¬ X a) v d → NewL s v d → Q v s') :
    wpAny (model prog w) A (subscriptTail value (.Slice lo up none p) a (.ref s.heap.objs.size)) Q E { s with heap := s.heap.push (slObj vl vu) } := by
  cases da with
  | list xs =>
    cases dl with
    | int i =>
      cases du with
      | int j =>
        obtain ⟨hc, rfl⟩ := ite_ok hd
        obtain ⟨l, vs, n, rfl, g, hl, r⟩ := ra.list
        obtain ⟨t, rfl⟩ := rl.int
        obtain ⟨u, rfl⟩ := ru.int
        obtain ⟨i', rfl⟩ := Int.eq_ofNat_of_zero_le hc.1
        obtain ⟨j', rfl⟩ := Int.eq_ofNat_of_zero_le hc.2
        have rr := (r.take j').drop i'
        refine slice_tail hX g hl r (.int _ _) (.int _ _) (slicePick_gen vs i' j') rr (drop_take_le hl) fun v s' a b c => h v s' a b fun _ _ => c
      | _ => exact stuck_ne hd
    | _ => exact stuck_ne hd
  | tuple xs =>
    cases dl with
    | int i =>
      cases du with
      | int j =>
        obtain ⟨hc, rfl⟩ := ite_ok hd
        obtain ⟨l, vs, n, rfl, g, hl, r⟩ := ra.tuple
        obtain ⟨t, rfl⟩ := rl.int
        obtain ⟨u, rfl⟩ := ru.int
        obtain ⟨i', rfl⟩ := Int.eq_ofNat_of_zero_le (show 0 ≤ i by omega)
        obtain ⟨j', rfl⟩ := Int.eq_ofNat_of_zero_le (show 0 ≤ j by omega)
        have k1 : Kp hb s.heap (s.heap.push (slObj (.int i' t) (.int j' u))) := .push _ _
        have e := r.length
        have g' := Heap.get?_push_of_some (slObj (.int i' t) (.int j' u)) g
        refine tail_any (s := { s with heap := s.heap.push (slObj (.int i' t) (.int j' u)) }) (ops := [.ref s.heap.objs.size, .ref l]) (isTup_of g').typeIs slot_tuple_getitem.lookup
          (getItem_tuple_run (isTup_of g') (Heap.IsSliceOf.new ..) (by omega) (by omega) (by omega) (by omega) ?_) rfl
        exact h _ _ ⟨rfl, k1.trans (.push _ _), id⟩ (Rp.newTuple (hX.kp k1) (((r.take j').drop i').kp k1) (drop_take_le hl)) (fun _ e => nomatch e)
      | _ => exact stuck_ne hd
    | _ => exact stuck_ne hd
  | _ => exact stuck_ne hd
theorem op_slTo {value : Expr} {lo up : Option Expr} {p : Pos} {vu : Value} {du : PyData} (hX : XIn X s.heap) (ra : Sm prog w s.heap X a da) (ru : Sm prog w s.heap X vu du) (hd : slToD da du = .ok d)
    (h : ∀ v s', Nx hb s s' → Rp prog w s'.heap (fun a => ¬ X a) v d → NewL s v d → Q v s') :
    wpAny (model prog w) A (subscriptTail value (.Slice lo up none p) a (.ref s.heap.objs.size)) Q E { s with heap := s.heap.push (slObj .none vu) } := by
  cases da with
  | list xs =>
    cases du with
    | int j =>
      obtain ⟨hc, rfl⟩ := ite_ok hd
      obtain ⟨l, vs, n, rfl, g, hl, r⟩ := ra.list
      obtain ⟨u, rfl⟩ := ru.int
      obtain ⟨j', rfl⟩ := Int.eq_ofNat_of_zero_le hc
      exact slice_tail hX g hl r .none (.int _ _) (slicePick_to vs j') (r.take j') (Nat.le_trans (List.length_take_le' j' xs) hl) fun v s' a b c => h v s' a b fun _ _ => c
    | _ => exact stuck_ne hd
  | _ => exact stuck_ne hd
theorem op_slFrom {value : Expr} {lo up : Option Expr} {p : Pos} {vl : Value} {dl : PyData} (hX : XIn X s.heap) (ra : Sm prog w s.heap X a da) (rl : Sm prog w s.heap X vl dl) (hd : slFromD da dl = .ok d)
    (h : ∀ v s', Nx hb s s' → Rp prog w s'.heap (fun a => ¬ X a) v d → NewL s v d → Q v s') :
    wpAny (model prog w) A (subscriptTail value (.Slice lo up none p) a (.ref s.heap.objs.size)) Q E { s with heap := s.heap.push (slObj vl .none) } := by
  cases da with
  | list xs =>
    cases dl with
    | int j =>
      obtain ⟨hc, rfl⟩ := ite_ok hd
      obtain ⟨l, vs, n, rfl, g, hl, r⟩ := ra.list
      obtain ⟨u, rfl⟩ := rl.int
      obtain ⟨j', rfl⟩ := Int.eq_ofNat_of_zero_le hc
      exact slice_tail hX g hl r (.int _ _) .none (slicePick_fr vs j') (r.drop j') (Nat.le_trans (List.length_drop ▸ Nat.sub_le _ _) hl) fun v s' a b c => h v s' a b fun _ _ => c
    | _ => exact stuck_ne hd
  | _ => exact stuck_ne hd
end
end Mine

-- M7
namespace Mine
open PySem PySem.Calls PyProof.Rows

theorem strOk_ofString (x : String) : PyData.strOk (Str.ofString x) = true := by
  unfold PyData.strOk Str.ofString
  rw [cpsOfBytes_string]
  simp only [List.all_toArray, List.all_map, List.all_eq_true]
  intro c _
  have h := c.valid
  simp only [UInt32.isValidChar, Nat.isValidChar] at h
  have : c.toNat = c.val.toNat := rfl
  simp only [Function.comp_apply, decide_eq_true_eq]
  omega

section
variable {prog : Program} {w : World} {A : Around} {E : Value → Shared → Prop} {s : Shared} {hb : Heap} {X : Addr → Prop} {a b : Value} {da db d : PyData} {Q : Value → Shared → Prop}

theorem op_len (ra : Sm prog w s.heap X a da) (hd : lenD da = .ok d) (h : ∀ v s', Nx hb s s' → Rp prog w s'.heap (fun a => ¬ X a) v d → Q v s') : wpAny (model prog w) A (call (.builtin "len") [a]) Q E s := by
  cases da with
  | list xs =>
    cases hd
    obtain ⟨l, vs, n, rfl, g, hl, r⟩ := ra.list
    have hl' : _ ≤ 1048576 := hl
    have e := r.length
    refine call_len_list (isList_of g) (by simp only [List.size_toArray]; omega) ?_
    simp only [List.size_toArray, e]
    exact h _ _ (.toks _ _) (.int _ _)
  | tuple xs =>
    cases hd
    obtain ⟨l, vs, n, rfl, g, hl, r⟩ := ra.tuple
    have hl' : _ ≤ 1048576 := hl
    have e := r.length
    refine P.len_tuple (n := n) g (by simp only [List.size_toArray]; omega) ?_
    simp only [List.size_toArray, e]
    exact h _ _ (.toks _ _) (.int _ _)
  | _ => exact stuck_ne hd
theorem op_abs (ra : Sm prog w s.heap X a da) (hd : absD da = .ok d) (h : ∀ v s', Nx hb s s' → Rp prog w s'.heap (fun a => ¬ X a) v d → Q v s') : wpAny (model prog w) A (call (.builtin "abs") [a]) Q E s := by
  cases da with
  | int i =>
    cases hd
    obtain ⟨t, rfl⟩ := ra.int
    exact call_abs_int fun u tk => h _ _ (.toks _ _) (.int _ _)
  | _ => exact stuck_ne hd
theorem op_min2 (hh : A.handled = none) (ra : Sm prog w s.heap X a da) (rb : Sm prog w s.heap X b db) (hd : min2D da db = .ok d) (h : ∀ v s', Nx hb s s' → Rp prog w s'.heap (fun a => ¬ X a) v d → Q v s') : wpAny (model prog w) A (call (.builtin "min") [a, b]) Q E s := by
  cases da with
  | int i =>
    cases db with
    | int j =>
      cases hd
      obtain ⟨t, rfl⟩ := ra.int
      obtain ⟨u, rfl⟩ := rb.int
      refine min_two_ints hh fun h' tk hk => h _ _ (.heap hk) ?_
      split <;> exact .int _ _
    | _ => exact stuck_ne hd
  | _ => exact stuck_ne hd
theorem sumL_ints : ∀ {xs : List PyData} {k : Int}, sumL xs = some k → ∃ ns : List Int, xs = ns.map .int ∧ k = ns.sum
  | [], k, h => by cases h; exact ⟨[], rfl, rfl⟩
  | .int a :: r, k, h => by
    simp only [sumL, Option.map_eq_some_iff] at h
    obtain ⟨k', h1, rfl⟩ := h
    obtain ⟨ns, rfl, rfl⟩ := sumL_ints h1
    exact ⟨a :: ns, rfl, rfl⟩
theorem op_lcopy (hX : XIn X s.heap) (ra : Sm prog w s.heap X a da) (hd : lcopyD da = .ok d) (h : ∀ v s', Nx hb s s' → Rp prog w s'.heap (fun a => ¬ X a) v d → NewL s v d → Q v s') : wpAny (model prog w) A (call (.type "list") [a]) Q E s := by
  cases da with
  | list xs =>
    cases hd
    obtain ⟨l, vs, n, rfl, g, hl, r⟩ := ra.list
    refine call_list_seq l (.inl rfl) g rfl rfl (fun h' c' hk hn => h _ _ (.heap' hk) (.list hX.size hn hl (r.to (fun _ p => p) fun a o _ e _ => hk a o e)) fun _ _ => ⟨_, rfl, get_size _⟩) ?_
    rw [List.size_toArray, r.length]
    exact size_lim hl
  | _ => exact stuck_ne hd
theorem op_neg (ra : Sm prog w s.heap X a da) (hd : negD da = .ok d) (h : ∀ v s', Nx hb s s' → Rp prog w s'.heap (fun a => ¬ X a) v d → Q v s') : wpAny (model prog w) A (unaryOp .USub a) Q E s := by
  cases da with
  | int i =>
    cases hd
    obtain ⟨t, rfl⟩ := ra.int
    exact PyProof.Rows.neg_int (h _ _ (.toks _ _) (.int _ _))
  | _ => exact stuck_ne hd
theorem op_not (ra : Sm prog w s.heap X a da) (hd : notD da = .ok d) (h : ∀ v s', Nx hb s s' → Rp prog w s'.heap (fun a => ¬ X a) v d → Q v s') : wpAny (model prog w) A (unaryOp .Not a) Q E s := by
  cases da with
  | bool i =>
    cases hd
    have := ra.bool
    subst this
    exact not_of (wpAny_truthy_bool (h _ _ (.refl _) (.bool _)))
  | _ => exact stuck_ne hd
theorem op_text (ra : Sm prog w s.heap X a da) (hd : textD da = .ok d) (h : ∀ v s', Nx hb s s' → Rp prog w s'.heap (fun a => ¬ X a) v d → Q v s') : wpAny (model prog w) A (call (.type "str") [a]) Q E s := by
  cases da with
  | int n =>
    obtain ⟨hc, rfl⟩ := ite_ok hd
    obtain ⟨t, rfl⟩ := ra.int
    refine P.str_of_int ?_ (h _ _ (.toks _ _) (.str _ _ (strOk_ofString _) ?_))
    · have h1 : n.natAbs < 2 ^ 20 := by omega
      have : n.natAbs.log2 < 20 := by
        by_cases h0 : n.natAbs = 0
        · rw [h0]; decide
        · exact (Nat.log2_lt h0).mpr h1
      omega
    · have h1 : n.natAbs < 10 ^ 6 := by omega
      have e := int_text_length_le10 (a := n) (k := 6) (by decide) h1
      rw [PySem.ofString_length, LIM_eq]
      omega
  | _ => exact stuck_ne hd

theorem op_is {x : Bool} (p : Bool) (hp : plainIs a b = true) (hx : (a == b) = x) (h : Q (.bool (x == p)) s) : wpAny (model prog w) A (compareOp (isOf p) a b) Q E s := by
  subst hx
  cases p with
  | true => exact wpAny_is_plain hp (by simpa using h)
  | false => exact wpAny_isNot_plain hp (by simpa using h)
theorem isNo (p : Bool) : (false == p) = !p := by cases p <;> rfl
theorem isYes (p : Bool) : (true == p) = p := by cases p <;> rfl
theorem op_isC (p : Bool) (ra : Sm prog w s.heap X a da) (rb : Sm prog w s.heap X b db) (hd : isCD p da db = .ok d) (h : ∀ x, d = .bool x → Q (.bool x) s) : wpAny (model prog w) A (compareOp (isOf p) a b) Q E s := by
  cases db with
  | none =>
    rw [rb.none]
    have no : ∀ {a : Value}, R.ok (.bool (!p)) = R.ok d → plainIs a .none = true → (a == .none) = false → wpAny (model prog w) A (compareOp (isOf p) a .none) Q E s := fun e h1 h2 =>
      op_is p h1 h2 (h _ ((R.ok.inj e).symm.trans (congrArg _ (isNo p).symm)))
    cases da with
    | none =>
      rw [ra.none]
      exact op_is (x := true) p rfl rfl (h _ ((R.ok.inj hd).symm.trans (congrArg _ (isYes p).symm)))
    | bool x =>
      rw [ra.bool]
      exact no hd rfl rfl
    | int i =>
      obtain ⟨t, rfl⟩ := ra.int
      exact no hd rfl rfl
    | list xs =>
      obtain ⟨l, vs, n, rfl, _⟩ := ra.list
      exact no hd rfl rfl
    | tuple xs =>
      obtain ⟨l, vs, n, rfl, _⟩ := ra.tuple
      exact no hd rfl rfl
    | dict xs =>
      obtain ⟨l, vs, n, rfl, _⟩ := ra.dict
      exact no hd rfl rfl
    | _ => exact stuck_ne hd
  | bool y =>
    rw [rb.bool]
    cases da with
    | none =>
      rw [ra.none]
      exact op_is (x := false) p rfl rfl (h _ ((R.ok.inj hd).symm.trans (congrArg _ (isNo p).symm)))
    | bool x =>
      rw [ra.bool]
      exact op_is p rfl (show (Value.bool x == Value.bool y) = (x == y) by cases x <;> cases y <;> rfl) (h _ (R.ok.inj hd).symm)
    | _ => exact stuck_ne hd
  | _ => exact stuck_ne hd
theorem op_isT (p : Bool) {T : String} (hT : T = "int" ∨ T = "bool") (ra : Sm prog w s.heap X a da) (hd : isTD p da T = .ok d) (h : ∀ x, d = .bool x → Q (.bool x) s) :
    wpAny (model prog w) A (call (.type "type") [a]) (fun v s' => s' = s ∧ wpAny (model prog w) A (compareOp (isOf p) v (.type T)) Q E s') E s := by
  cases da with
  | int i =>
    obtain ⟨t, rfl⟩ := ra.int
    refine call_type_of (typeIs_int s _ t) (by decide) ⟨rfl, ?_⟩
    rcases hT with rfl | rfl
    · exact op_is (x := true) p rfl rfl (h _ (R.ok.inj hd).symm)
    · exact op_is (x := false) p rfl rfl (h _ (R.ok.inj hd).symm)
  | bool i =>
    rw [ra.bool]
    refine call_type_of (Tx := "bool") rfl (by decide) ⟨rfl, ?_⟩
    rcases hT with rfl | rfl
    · exact op_is (x := false) p rfl rfl (h _ (R.ok.inj hd).symm)
    · exact op_is (x := true) p rfl rfl (h _ (R.ok.inj hd).symm)
  | _ => exact stuck_ne hd
end
end Mine

-- M8
namespace Mine
open PySem PySem.Calls PyProof.Rows

noncomputable def Glb (hb : Heap) (x : Str) (v : Value) : Prop := ∃ mg, hb.Ns mainGlobals mg ∧ mg x = some v
noncomputable def Blt (hb : Heap) (x : Str) (v : Value) : Prop := ∃ mg mb, hb.Ns mainGlobals mg ∧ mg x = none ∧ hb.Ns builtinsNs mb ∧ mb x = some v

noncomputable def frs (A : Around) : List Addr := match A.frames with | some l => l.filterMap (·.frame) | none => []
noncomputable def Stk (hb : Heap) (A : Around) (h : Heap) : Prop := (∃ l, A.frames = some l ∧ h.FunFrames hb l) ∧ ∀ b ∈ frs A, ∃ o, h.get? b = some o ∧ Fr o
theorem Stk.kp {hb : Heap} {A : Around} {h h' : Heap} (x : Stk hb A h) (k : Kp hb h h') : Stk hb A h' := by
  obtain ⟨⟨l, a, b⟩, c⟩ := x
  refine ⟨⟨l, a, k.frames b⟩, fun b hb => ?_⟩
  obtain ⟨o, e, f⟩ := c b hb
  obtain ⟨sl, z⟩ := k.fr b o e
  exact ⟨_, z, f⟩
noncomputable def Room (A : Around) (n : Nat) : Prop := A.depth + n < 900 ∧ A.units + 10 * n + 200 < 9900 ∧ A.handled = none

noncomputable def exCls (cO : Addr) : Exk → Value
  | .value => .type "ValueError"
  | .oom => .ref cO

noncomputable def Flown (hb : Heap) (s s' : Shared) (e : Addr) (cls : Value) : Prop :=
  Nx hb s s' ∧ s.heap.get? e = none ∧ ∃ oe vs T oT ts, s'.heap.get? e = some oe ∧ oe.cls = cls ∧ oe.data = .fields vs ∧ vs[1]? = some (.ref T) ∧ s.heap.get? T = none ∧ T ≠ e ∧
    s'.heap.get? T = some oT ∧ oT.data = .fields ts ∧ ts[3]? = some .none

theorem Kp.none {hb h h' : Heap} (k : Kp hb h h') {a : Addr} (e : h'.get? a = none) : h.get? a = none := by
  cases q : h.get? a with
  | none => rfl
  | some o =>
    obtain ⟨sl, z⟩ := k.fr a o q
    rw [z] at e; cases e

theorem Flown.from {hb : Heap} {s s₁ s' : Shared} {e : Addr} {cls : Value} (n : Nx hb s s₁) (f : Flown hb s₁ s' e cls) : Flown hb s s' e cls := by
  obtain ⟨h1, h2, oe, vs, T, oT, ts, a1, a2, a3, a4, a5, a6⟩ := f
  exact ⟨n.trans h1, n.kp.none h2, oe, vs, T, oT, ts, a1, a2, a3, a4, n.kp.none a5, a6⟩

noncomputable def ValOf (env : Env) (h : Heap) (x : Str) (v : Value) : Prop :=
  (env.kindOf x = some .local ∧ ∃ m, h.Ns env.locals m ∧ m x = some v) ∨ (env.kindOf x = some .cell ∧ ∃ c, env.cells.lookup x = some c ∧ h.IsCell c (some v))
theorem ValOf.kp {env : Env} {hb h h' : Heap} {x : Str} {v : Value} (k : Kp hb h h') (r : ValOf env h x v) : ValOf env h' x v := by
  rcases r with ⟨a, m, n, e⟩ | ⟨a, c, e, n⟩
  · exact .inl ⟨a, m, k.ns n, e⟩
  · exact .inr ⟨a, c, e, k.cell n⟩
theorem ValOf.load {M : Model} {A : Around} {E : Value → Shared → Prop} {env : Env} {s : Shared} {x : Str} {v : Value} {Q : Value → Shared → Prop} (r : ValOf env s.heap x v) (hk : env.scope.kind = .function) (h : Q v s) :
    wpAny M A (loadName env x) Q E s := by
  rcases r with ⟨a, m, n, e⟩ | ⟨a, c, e, n⟩
  · exact wpAny_loadName_local hk a n e h
  · exact wpAny_loadName_cell hk a e n h

section
variable (prog : Program) (w : World)
noncomputable def VAok (h : Heap) (X O : Addr → Prop) : VA → Value → Prop
  | .un, _ => True
  | .v d, v => Rp prog w h (fun a => ¬ X a) v d
  | .own ds, v => ∃ a vs n, v = .ref a ∧ O a ∧ h.get? a = some { cls := .type "list", data := .seq (List.toArray vs) n } ∧ ds.length ≤ LIM ∧ RpL prog w h (fun a => ¬ X a) vs ds
  | .i3 k, v => ∃ t vs n tok, v = .ref t ∧ h.get? t = some { cls := .type "tuple", data := .seq (List.toArray vs) n } ∧ vs.length = 4 ∧ vs[3]? = some (.int k tok)
theorem VAok.kp {hb h h' : Heap} {X O : Addr → Prop} {va : VA} {v : Value} (k : Kp hb h h') (r : VAok prog w h X O va v) : VAok prog w h' X O va v := by
  cases va with
  | un => trivial
  | v d => exact Rp.kp r k
  | own ds =>
    obtain ⟨a, vs, n, e, x, g, l, r⟩ := r
    exact ⟨a, vs, n, e, x, k.obj _ _ g ne_list, l, r.kp k⟩
  | i3 i =>
    obtain ⟨t, vs, n, tok, e, g, r⟩ := r
    exact ⟨t, vs, n, tok, e, k.obj _ _ g ne_tuple, r⟩

structure SE (hb : Heap) (A : Around) (Γ : Sc) (env : Env) (ρ : Rho) (c : Option PyData) (X O : Addr → Prop) (s : Shared) : Prop where
  kind : env.scope.kind = .function
  gl : env.globals = mainGlobals
  bl : env.builtins = builtinsNs
  kd : ∀ x, Γ.kd x = some .globalImplicit → env.kindOf x = some .globalImplicit
  fs : Γ.cs = none → env.scope = Γ.fs
  stays : hb.StaysIn s.heap
  stk : Stk hb A s.heap
  bare : AllBare s.gens
  xin : XIn X s.heap
  xnew : ∀ a, X a → hb.get? a = none
  ox : ∀ a, O a → X a
  cel : Γ.cs = none → ∀ y, Γ.fs.names.lookup y = some .cell → ∃ c, env.cells.lookup y = some c
  vars : ∀ i x va, Γ.isVar i x = true → ρ[i]? = some va → va ≠ .un → ∃ v, ValOf env s.heap x v ∧ VAok prog w s.heap X O va v
  cvar : ∀ x d, Γ.isCv x = true → c = some d → ∃ v, ValOf env s.heap x v ∧ Rp prog w s.heap (fun a => ¬ X a) v d
end

section
variable {prog : Program} {w : World} {hb : Heap} {A : Around} {Γ : Sc} {env : Env} {ρ : Rho} {c : Option PyData} {X O : Addr → Prop} {s s' : Shared}
theorem SE.nx (S : SE prog w hb A Γ env ρ c X O s) (n : Nx hb s s') : SE prog w hb A Γ env ρ c X O s' where
  kind := S.kind
  gl := S.gl
  bl := S.bl
  kd := S.kd
  fs := S.fs
  stays := n.kp.stays S.stays
  stk := S.stk.kp n.kp
  bare := n.gens S.bare
  xin := S.xin.kp n.kp
  xnew := S.xnew
  ox := S.ox
  cel := S.cel
  vars := fun i x va h1 h2 h3 => by
    obtain ⟨v, a, b⟩ := S.vars i x va h1 h2 h3
    exact ⟨v, a.kp n.kp, b.kp prog w n.kp⟩
  cvar := fun x d h1 h2 => by
    obtain ⟨v, a, b⟩ := S.cvar x d h1 h2
    exact ⟨v, a.kp n.kp, b.kp n.kp⟩

theorem SE.glob {M : Model} {A' : Around} {E : Value → Shared → Prop} {Q : Value → Shared → Prop} {x y : Str} {pos : Pos} {v : Value} (S : SE prog w hb A Γ env ρ c X O s) (hx : Γ.isGlob x y = true) (g : Glb hb y v) (h : Q v s) :
    wpAny M A' (eval (.Name x pos) env) Q E s := by
  simp only [Sc.isGlob, Bool.and_eq_true, beq_iff_eq] at hx
  obtain ⟨⟨rfl, h2⟩, h3⟩ := hx
  obtain ⟨mg, n, e⟩ := g
  exact Name_function_global S.kind (S.kd _ h3) (loadGlobal_global (by rw [S.gl]; exact n.keeps S.stays) e h) h2
theorem SE.blt {M : Model} {A' : Around} {E : Value → Shared → Prop} {Q : Value → Shared → Prop} {x y : Str} {pos : Pos} {v : Value} (S : SE prog w hb A Γ env ρ c X O s) (hx : Γ.isBlt x y = true) (g : Blt hb y v) (h : Q v s) :
    wpAny M A' (eval (.Name x pos) env) Q E s := by
  simp only [Sc.isBlt, Sc.isGlob, Bool.and_eq_true, beq_iff_eq] at hx
  obtain ⟨⟨rfl, h2⟩, h3⟩ := hx
  obtain ⟨mg, mb, n, e, n', e'⟩ := g
  exact Name_function_global S.kind (S.kd _ h3) (loadGlobal_builtin (by rw [S.gl]; exact n.keeps S.stays) e (by rw [S.bl]; exact n'.keeps S.stays) e' h) h2
end

section
variable (prog : Program) (w : World) (hb : Heap) (cO : Addr)
noncomputable def CallOk (f : List PyData → R PyData) (k : Nat) (a : Addr) : Prop :=
  ∀ (A : Around) (s : Shared) (X : Addr → Prop) (vals : List Value) (ds : List PyData), Room A (k + 1) → hb.StaysIn s.heap → Stk hb A s.heap → AllBare s.gens → XIn X s.heap → (∀ a, X a → hb.get? a = none) →
    RpL prog w s.heap (fun a => ¬ X a) vals ds → f ds ≠ .stuck → ∀ (Q : Value → Shared → Prop) (E : Value → Shared → Prop),
    (∀ v s' d, f ds = .ok d → Nx hb s s' → Rp prog w s'.heap (fun a => ¬ X a) v d → Q v s') →
    (∀ e s' x, f ds = .exc x → Flown hb s s' e (exCls cO x) → E (.ref e) s') → wpAny (model prog w) A (call (.ref a) vals) Q E s

noncomputable def NewF (X : Addr → Prop) (s s' : Shared) (v : Value) (d : PyData) : Prop :=
  ∃ t a₁ a₂ vs₁ vs₂ n₀ n₁ n₂ v₃ v₄ ns fs d₃ d₄, d = .tuple [.list ns, .list fs, d₃, d₄] ∧ v = .ref t ∧ s'.heap.get? t = some { cls := .type "tuple", data := .seq (List.toArray [.ref a₁, .ref a₂, v₃, v₄]) n₀ } ∧ s.heap.get? t = none ∧
    s.heap.get? a₁ = none ∧ s.heap.get? a₂ = none ∧ a₁ ≠ a₂ ∧ s'.heap.get? a₁ = some { cls := .type "list", data := .seq (List.toArray vs₁) n₁ } ∧ s'.heap.get? a₂ = some { cls := .type "list", data := .seq (List.toArray vs₂) n₂ } ∧
    ns.length ≤ LIM ∧ fs.length ≤ LIM ∧ RpL prog w s'.heap (fun a => ¬ X a ∧ a ≠ a₁ ∧ a ≠ a₂) vs₁ ns ∧ RpL prog w s'.heap (fun a => ¬ X a ∧ a ≠ a₁ ∧ a ≠ a₂) vs₂ fs ∧
    Rp prog w s'.heap (fun a => ¬ X a ∧ a ≠ a₁ ∧ a ≠ a₂) v₃ d₃ ∧ Rp prog w s'.heap (fun a => ¬ X a ∧ a ≠ a₁ ∧ a ≠ a₂) v₄ d₄
noncomputable def CallOkF (f : List PyData → R PyData) (k : Nat) (a : Addr) : Prop :=
  ∀ (A : Around) (s : Shared) (X : Addr → Prop) (vals : List Value) (ds : List PyData), Room A (k + 1) → hb.StaysIn s.heap → Stk hb A s.heap → AllBare s.gens → XIn X s.heap → (∀ a, X a → hb.get? a = none) →
    RpL prog w s.heap (fun a => ¬ X a) vals ds → f ds ≠ .stuck → ∀ (Q : Value → Shared → Prop) (E : Value → Shared → Prop),
    (∀ v s' d, f ds = .ok d → Nx hb s s' → NewF prog w X s s' v d → Q v s') →
    (∀ e s' x, f ds = .exc x → Flown hb s s' e (exCls cO x) → E (.ref e) s') → wpAny (model prog w) A (call (.ref a) vals) Q E s

structure GF (T : Tb) (F : FT) (n : Nat) : Prop where
  nolim : hb.NoLimit
  fn : ∀ (k : Nat) y, T.fn[k]? = some y → ∃ a o fd, Glb hb y (.ref a) ∧ hb.get? a = some o ∧ o.data = .func fd ∧ CallOk prog w hb cO (F.fn k) k a
  ff : ∀ (k : Nat) y, T.fn[k]? = some y → T.ff = some k → ∃ a o fd, Glb hb y (.ref a) ∧ hb.get? a = some o ∧ o.data = .func fd ∧ CallOkF prog w hb cO (F.fn k) k a
  few : ∀ k ds, n ≤ k → F.fn k ds = .stuck
  gl : ∀ (k : Nat) y d, T.gl[k]? = some y → F.gl[k]? = some d → ∃ v, Glb hb y v ∧ Rp prog w hb (fun a => hb.get? a ≠ none) v d
  len : Blt hb "len" (.builtin "len")
  abs : Blt hb "abs" (.builtin "abs")
  min : Blt hb "min" (.builtin "min")
  sum : Blt hb "sum" (.builtin "sum")
  any : Blt hb "any" (.builtin "any")
  all : Blt hb "all" (.builtin "all")
  sorted : Blt hb "sorted" (.builtin "sorted")
  list : Blt hb "list" (.type "list")
  dict : Blt hb "dict" (.type "dict")
  str : Blt hb "str" (.type "str")
  range : Blt hb "range" (.type "range")
  type : Blt hb "type" (.type "type")
  int : Blt hb "int" (.type "int")
  bool : Blt hb "bool" (.type "bool")
  value : Blt hb "ValueError" (.type "ValueError")
  oom : Glb hb "OutOfMemory" (.ref cO)
  oomC : ∃ mg, hb.Ns mainGlobals mg ∧ OwnCls "OutOfMemory" cO [.type "Exception", .type "BaseException", .type "object"] "Exception.__new__" mg hb

noncomputable def EOk (A : Around) (X : Addr → Prop) (fr : Bool) (s : Shared) (m : Sem Value) (r : R PyData) : Prop :=
  r ≠ .stuck → ∀ (Q : Value → Shared → Prop) (E : Value → Shared → Prop),
    (∀ v s' d, r = .ok d → Nx hb s s' → Rp prog w s'.heap (fun a => ¬ X a) v d → (fr = true → NewL s v d) → Q v s') →
    (∀ e s' x, r = .exc x → Flown hb s s' e (exCls cO x) → E (.ref e) s') → wpAny (model prog w) A m Q E s
noncomputable def SOk (A : Around) (X : Addr → Prop) (s : Shared) (m : Sem Value) (r : R PyData) : Prop :=
  r ≠ .stuck → ∀ (Q : Value → Shared → Prop) (E : Value → Shared → Prop),
    (∀ v s' d, r = .ok d → Nx hb s s' → Sm prog w s'.heap X v d → Q v s') →
    (∀ e s' x, r = .exc x → Flown hb s s' e (exCls cO x) → E (.ref e) s') → wpAny (model prog w) A m Q E s
noncomputable def TOk (A : Around) (s : Shared) (m : Sem Bool) (r : R PyData) : Prop :=
  (∀ d, r = .ok d → ∃ b, d = .bool b) → r ≠ .stuck → ∀ (Q : Bool → Shared → Prop) (E : Value → Shared → Prop),
    (∀ b s', r = .ok (.bool b) → Nx hb s s' → Q b s') →
    (∀ e s' x, r = .exc x → Flown hb s s' e (exCls cO x) → E (.ref e) s') → wpAny (model prog w) A m Q E s
end

theorem bind_ne {α β : Type} {x : R α} {f : α → R β} (h : x.bind f ≠ .stuck) : x ≠ .stuck := by
  rintro rfl; exact h rfl
theorem bind_ok {α β : Type} {x : R α} {f : α → R β} {a : α} (e : x = .ok a) : x.bind f = f a := by subst e; rfl
theorem bind_exc {α β : Type} {x : R α} {f : α → R β} {k : Exk} (e : x = .exc k) : x.bind f = .exc k := by subst e; rfl
theorem bind_eq_ok {α β : Type} {x : R α} {f : α → R β} {b : β} (h : x.bind f = .ok b) : ∃ a, x = .ok a ∧ f a = .ok b := by
  cases x with
  | ok a => exact ⟨a, rfl, h⟩
  | exc k => cases h
  | stuck => cases h

section
variable {prog : Program} {w : World} {hb : Heap} {cO : Addr} {A : Around} {X : Addr → Prop} {s : Shared} {m : Sem Value} {r : R PyData} {fr : Bool}
theorem EOk.sok (h : EOk prog w hb cO A X fr s m r) : SOk prog w hb cO A X s m r := fun hr Q E hQ hE => h hr Q E (fun v s' d e n q _ => hQ v s' d e n (.inl q)) hE
theorem EOk.tok {e : Expr} {env : Env} (h : EOk prog w hb cO A X fr s m r) (he : isTrue e env m = (do let v ← m; standAt e.pos; holding [v] (truthy v))) : TOk prog w hb cO A s (isTrue e env m) r := by
  intro hb hr Q E hQ hE
  refine isTrue_plain (h hr _ _ (fun v s' d e n q _ => ?_) hE) he
  obtain ⟨b, rfl⟩ := hb d e
  cases q
  exact wpAny_truthy_bool (hQ b s' e n)
end

end Mine

-- M9
namespace Mine
open PySem PySem.Calls PyProof.Rows

theorem none_ne {α : Type} {x : α} {P : Prop} (h : (none : Option α) = some x) : P := nomatch h
theorem ff_ne {P : Prop} (h : false = true) : P := nomatch h

theorem backTo_plain (pos : Pos) (env : Env) : ∀ (args : List Expr), args.all noStar = true → backTo pos (starEach args env) = args.map fun p => (false, eval p env)
  | [], _ => rfl
  | p :: r, h => by
    simp only [List.all_cons, Bool.and_eq_true] at h
    have e : starEach (p :: r) env = (false, eval p env) :: starEach r env := by
      cases p <;> first | rfl | (simp [noStar] at h)
    have ih := backTo_plain pos env r h.2
    rw [e]
    simp only [backTo, List.map_cons] at ih ⊢
    rw [ih]
    rfl

theorem stuck_nex {k : Exk} : (R.stuck : R PyData) ≠ .exc k := nofun
theorem ok_nex {d : PyData} {k : Exk} : R.ok d ≠ .exc k := nofun
theorem ite_nex {c : Prop} [Decidable c] {d : PyData} {k : Exk} : (if c then R.ok d else R.stuck) ≠ .exc k := by
  by_cases h : c
  · rw [if_pos h]; exact ok_nex
  · rw [if_neg h]; exact stuck_nex
theorem intO_ne {f : Int → Int → R PyData} {a b : PyData} {k : Exk} (h : ∀ i j, f i j ≠ .exc k) : intO f a b ≠ .exc k := by
  cases a with
  | int i =>
    cases b with
    | int j => exact h i j
    | _ => exact stuck_nex
  | _ => exact stuck_nex
theorem binD_ne {o : BinO} {a b : PyData} {k : Exk} : binD o a b ≠ .exc k := by
  cases o with
  | add =>
    cases a with
    | int i =>
      cases b with
      | int j => exact ok_nex
      | _ => exact stuck_nex
    | list i =>
      cases b with
      | list j => exact ite_nex
      | _ => exact stuck_nex
    | str i =>
      cases b with
      | str j => exact ite_nex
      | _ => exact stuck_nex
    | _ => exact stuck_nex
  | mul =>
    cases a with
    | int i =>
      cases b with
      | int j => exact ite_nex
      | _ => exact stuck_nex
    | list i =>
      cases b with
      | int j =>
        cases i with
        | nil => exact stuck_nex
        | cons x r =>
          cases r with
          | nil => exact ite_nex
          | cons _ _ => exact stuck_nex
      | _ => exact stuck_nex
    | _ => exact stuck_nex
  | sub => exact intO_ne fun _ _ => ok_nex
  | fdiv => exact intO_ne fun _ _ => ite_nex
  | mod => exact intO_ne fun _ _ => ite_nex
theorem cmpD_ne {o : CmpO} {a b : PyData} {k : Exk} : cmpD o a b ≠ .exc k := by
  have hi : ∀ {q : Bool}, inO q a b ≠ .exc k := by
    intro q
    cases b with
    | list xs => exact ite_nex
    | _ => exact stuck_nex
  cases o with
  | eq => exact ite_nex
  | ne => exact ite_nex
  | isin => exact hi
  | notin => exact hi
  | lt => exact intO_ne fun _ _ => ok_nex
  | le => exact intO_ne fun _ _ => ok_nex
  | gt => exact intO_ne fun _ _ => ok_nex
  | ge => exact intO_ne fun _ _ => ok_nex
theorem negD_ne {a : PyData} {k : Exk} : negD a ≠ .exc k := by
  cases a with
  | int i => exact ok_nex
  | _ => exact stuck_nex
theorem notD_ne {a : PyData} {k : Exk} : notD a ≠ .exc k := by
  cases a with
  | bool i => exact ok_nex
  | _ => exact stuck_nex
theorem isCD_ne {p : Bool} {a b : PyData} {k : Exk} : isCD p a b ≠ .exc k := by
  cases b with
  | none =>
    cases a with
    | str x => exact stuck_nex
    | _ => exact ok_nex
  | bool y =>
    cases a with
    | none => exact ok_nex
    | bool x => exact ok_nex
    | _ => exact stuck_nex
  | _ => exact stuck_nex
theorem isTD_ne {p : Bool} {a : PyData} {n : String} {k : Exk} : isTD p a n ≠ .exc k := by
  cases a with
  | bool i => exact ok_nex
  | int i => exact ok_nex
  | _ => exact stuck_nex
theorem lenD_ne {a : PyData} {k : Exk} : lenD a ≠ .exc k := by
  cases a with
  | list i => exact ok_nex
  | tuple i => exact ok_nex
  | _ => exact stuck_nex
theorem absD_ne {a : PyData} {k : Exk} : absD a ≠ .exc k := by
  cases a with
  | int i => exact ok_nex
  | _ => exact stuck_nex
theorem min2D_ne {a b : PyData} {k : Exk} : min2D a b ≠ .exc k := by
  cases a with
  | int i =>
    cases b with
    | int j => exact ok_nex
    | _ => exact stuck_nex
  | _ => exact stuck_nex
theorem opt_nex {x : Option PyData} {k : Exk} : (match x with | some d => R.ok d | Option.none => R.stuck) ≠ .exc k := by
  cases x with
  | none => exact stuck_nex
  | some d => exact ok_nex
theorem lcopyD_ne {a : PyData} {k : Exk} : lcopyD a ≠ .exc k := by
  cases a with
  | list i => exact ok_nex
  | _ => exact stuck_nex
theorem textD_ne {a : PyData} {k : Exk} : textD a ≠ .exc k := by
  cases a with
  | int i => exact ite_nex
  | _ => exact stuck_nex
theorem dmake_ne {k : Exk} : ∀ {xs : List PyData} {acc : List (PyData × PyData)}, dmake xs acc ≠ .exc k
  | [], acc => by unfold dmake; exact ok_nex
  | x :: r, acc => by
    unfold dmake; split
    · rename_i h; cases h; exact dmake_ne
    · rename_i h; cases h
    · exact stuck_nex
theorem mkdictD_ne {a : PyData} {k : Exk} : mkdictD a ≠ .exc k := by
  cases a with
  | list i => exact dmake_ne
  | _ => exact stuck_nex
theorem idxD_ne {a b : PyData} {k : Exk} : idxD a b ≠ .exc k := by
  cases a with
  | list xs =>
    cases b with
    | int j => exact opt_nex
    | _ => exact stuck_nex
  | tuple xs =>
    cases b with
    | int j => exact opt_nex
    | _ => exact stuck_nex
  | dict xs =>
    cases b with
    | int j => exact opt_nex
    | _ => exact stuck_nex
  | _ => exact stuck_nex
theorem slD_ne {a b d : PyData} {k : Exk} : slD a b d ≠ .exc k := by
  cases a with
  | list xs =>
    cases b with
    | int i =>
      cases d with
      | int j => exact ite_nex
      | _ => exact stuck_nex
    | _ => exact stuck_nex
  | tuple xs =>
    cases b with
    | int i =>
      cases d with
      | int j => exact ite_nex
      | _ => exact stuck_nex
    | _ => exact stuck_nex
  | _ => exact stuck_nex
theorem slToD_ne {a b : PyData} {k : Exk} : slToD a b ≠ .exc k := by
  cases a with
  | list xs =>
    cases b with
    | int j => exact ite_nex
    | _ => exact stuck_nex
  | _ => exact stuck_nex
theorem slFromD_ne {a b : PyData} {k : Exk} : slFromD a b ≠ .exc k := by
  cases a with
  | list xs =>
    cases b with
    | int j => exact ite_nex
    | _ => exact stuck_nex
  | _ => exact stuck_nex
theorem marks_of {op : CmpOp} {r : Expr} (h : isSetE r = false) : behindInMarks op r = false := by cases r <;> first | rfl | (simp [isSetE] at h)

section
variable {prog : Program} {w : World} {hb : Heap} {cO : Addr} {A : Around} {Γ : Sc} {env : Env} {ρ : Rho} {c : Option PyData} {X O : Addr → Prop} {s : Shared} {T : Tb} {F : FT} {n : Nat}

noncomputable def LOk (prog : Program) (w : World) (hb : Heap) (cO : Addr) (A : Around) (X : Addr → Prop) (s : Shared) (ms : List (Bool × Sem Value)) (r : R (List PyData)) : Prop :=
  r ≠ .stuck → ∀ (Q : List Value → Shared → Prop) (E : Value → Shared → Prop),
    (∀ vs s' ds, r = .ok ds → Nx hb s s' → RpL prog w s'.heap (fun a => ¬ X a) vs ds → Q vs s') →
    (∀ e s' x, r = .exc x → Flown hb s s' e (exCls cO x) → E (.ref e) s') → wpAny (model prog w) A (spliced ms) Q E s

theorem LOk.nil : LOk prog w hb cO A X s [] (.ok []) := fun _ _ _ hQ _ => spliced_nil (hQ _ _ _ rfl (.refl _) .nil)
theorem LOk.cons {m : Sem Value} {ms : List (Bool × Sem Value)} {r : R PyData} {rs : R (List PyData)} {fr : Bool} (h1 : EOk prog w hb cO A X fr s m r) (h2 : ∀ s', Nx hb s s' → LOk prog w hb cO A X s' ms rs) :
    LOk prog w hb cO A X s ((false, m) :: ms) (r.bind fun d => rs.bind fun ds => .ok (d :: ds)) := by
  intro hr Q E hQ hE
  refine spliced_cons (h1 (bind_ne hr) _ _ (fun v s₁ d e1 n1 r1 _ => ?_) fun e s' x ex f => hE e s' x (bind_exc ex) f)
  rw [bind_ok e1] at hr hQ hE
  refine h2 s₁ n1 (bind_ne hr) _ _ (fun vs s₂ ds e2 n2 r2 => ?_) fun e s' x ex f => hE e s' x (bind_exc ex) (f.from n1)
  exact hQ _ _ _ (bind_ok e2) (n1.trans n2) (.cons (r1.kp n2.kp) r2)

theorem eok_const {d : PyData} {e : Expr} {fr : Bool} (he : ∀ (Q : Value → Shared → Prop) (E : Value → Shared → Prop), (∀ s', Nx hb s s' → ∀ v, Rp prog w s'.heap (fun a => ¬ X a) v d → Q v s') → wpAny (model prog w) A (eval e env) Q E s) (hd : ∀ ds, d ≠ .list ds) :
    EOk prog w hb cO A X fr s (eval e env) (.ok d) := fun _ Q E hQ _ => he Q E fun s' n v q => hQ v s' d rfl n q fun _ ds e => absurd e (hd ds)

theorem eok_bin {l r : Expr} {o : BinO} {pos : Pos} {rl rr : R PyData} (S : SE prog w hb A Γ env ρ c X O s) (h1 : SOk prog w hb cO A X s (eval l env) rl) (h2 : ∀ s', Nx hb s s' → SOk prog w hb cO A X s' (eval r env) rr) :
    EOk prog w hb cO A X true s (eval (.BinOp l (opOf o) r pos) env) (rl.bind fun a => rr.bind fun b => binD o a b) := by
  intro hr Q E hQ hE
  refine wpAny_BinOp (h1 (bind_ne hr) _ _ (fun a s₁ da e1 n1 r1 => ?_) fun e s' x ex f => hE e s' x (bind_exc ex) f)
  rw [bind_ok e1] at hr hQ hE
  refine h2 s₁ n1 (bind_ne hr) _ _ (fun b s₂ db e2 n2 r2 => ?_) fun e s' x ex f => hE e s' x (bind_exc ex) (f.from n1)
  rw [bind_ok e2] at hr hQ hE
  cases hd : binD o da db with
  | stuck => exact absurd hd hr
  | exc k => exact absurd hd binD_ne
  | ok d =>
    refine op_bin (hb := hb) ((S.nx (n1.trans n2)).xin) (r1.kp n2.kp) r2 hd fun v s' n3 q nl => hQ v s' d hd ((n1.trans n2).trans n3) q fun _ ds e => ?_
    obtain ⟨a', h1, h2⟩ := nl ds e
    exact ⟨a', h1, (n1.trans n2).kp.none h2⟩

theorem NewL.from {s₁ : Shared} {v : Value} {d : PyData} (nl : NewL s₁ v d) (n : Nx hb s s₁) : NewL s v d := fun ds e => by
  obtain ⟨a, h1, h2⟩ := nl ds e
  exact ⟨a, h1, n.kp.none h2⟩
theorem eok_un' {m m' : Sem Value} {rl : R PyData} {f : PyData → R PyData} {k : Value → Sem Value} {fr : Bool} (h1 : SOk prog w hb cO A X s m rl) (hf : ∀ {a : PyData} {x : Exk}, f a ≠ .exc x)
    (hm : ∀ (Q : Value → Shared → Prop) (E : Value → Shared → Prop), wpAny (model prog w) A m (fun v s₁ => wpAny (model prog w) A (k v) Q E s₁) E s → wpAny (model prog w) A m' Q E s)
    (hk : ∀ (v : Value) (s₁ : Shared) (da d : PyData) (Q : Value → Shared → Prop) (E : Value → Shared → Prop), Nx hb s s₁ → Sm prog w s₁.heap X v da → f da = .ok d →
      (∀ v' s', Nx hb s₁ s' → Rp prog w s'.heap (fun a => ¬ X a) v' d → (fr = true → NewL s₁ v' d) → Q v' s') → wpAny (model prog w) A (k v) Q E s₁) :
    EOk prog w hb cO A X fr s m' (rl.bind f) := by
  intro hr Q E hQ hE
  refine hm Q E (h1 (bind_ne hr) _ _ (fun a s₁ da e1 n1 r1 => ?_) fun e s' x ex f => hE e s' x (bind_exc ex) f)
  rw [bind_ok e1] at hr hQ hE
  cases hd : f da with
  | stuck => exact absurd hd hr
  | exc k => exact absurd hd hf
  | ok d => exact hk a s₁ da d Q E n1 r1 hd fun v' s' n2 q nl => hQ v' s' d hd (n1.trans n2) q fun h => (nl h).from n1

theorem eok_neg {e : Expr} {pos : Pos} {r : R PyData} {fr : Bool} (h : EOk prog w hb cO A X fr s (eval e env) r) : EOk prog w hb cO A X false s (eval (.UnaryOp .USub e pos) env) (r.bind negD) :=
  eok_un' (k := fun v => unaryOp .USub v) h.sok negD_ne (fun Q E h => UnaryOp_ h) fun v s₁ da d Q E n1 r1 hd hQ => op_neg r1 hd fun v' s' n q => hQ v' s' n q fun h => by cases h
theorem eok_not {e : Expr} {pos : Pos} {r : R PyData} {fr : Bool} (h : EOk prog w hb cO A X fr s (eval e env) r) : EOk prog w hb cO A X false s (eval (.UnaryOp .Not e pos) env) (r.bind notD) :=
  eok_un' (k := fun v => unaryOp .Not v) h.sok notD_ne (fun Q E h => UnaryOp_ h) fun v s₁ da d Q E n1 r1 hd hQ => op_not r1 hd fun v' s' n q => hQ v' s' n q fun h => by cases h
theorem tok_not {e : Expr} {pos : Pos} {r : R PyData} {whole : Sem Value} (h : TOk prog w hb cO A s (isTrue e env (eval e env)) r) : TOk prog w hb cO A s (isTrue (.UnaryOp .Not e pos) env whole) (r.bind notD) := by
  intro hb' hr Q E hQ hE
  have hb2 : ∀ d, r = .ok d → ∃ b, d = .bool b := by
    intro d e
    rw [bind_ok e] at hr
    unfold notD at hr
    split at hr
    · exact ⟨_, rfl⟩
    · exact absurd rfl hr
  refine isTrue_not (h hb2 (bind_ne hr) _ _ (fun b s' e n => hQ _ _ ?_ n) fun e s' x ex f => hE e s' x (bind_exc ex) f)
  rw [bind_ok e]; rfl

theorem eok_cmp {l r : Expr} {op : CmpOp} {pos : Pos} {rl rr : R PyData} {f : PyData → PyData → R PyData} (hs : isSetE r = false) (h1 : SOk prog w hb cO A X s (eval l env) rl) (h2 : ∀ s', Nx hb s s' → SOk prog w hb cO A X s' (eval r env) rr)
    (hf : ∀ {a b : PyData} {x : Exk}, f a b ≠ .exc x)
    (hk : ∀ (a b : Value) (s₁ : Shared) (da db d : PyData) (Q : Value → Shared → Prop) (E : Value → Shared → Prop), Sm prog w s₁.heap X a da → Sm prog w s₁.heap X b db → f da db = .ok d → (∀ x, d = .bool x → Q (.bool x) s₁) → wpAny (model prog w) A (compareOp op a b) Q E s₁) :
    EOk prog w hb cO A X false s (eval (.Compare l [op] [r] pos) env) (rl.bind fun a => rr.bind fun b => f a b) ∧
      ∀ whole, TOk prog w hb cO A s (isTrue (.Compare l [op] [r] pos) env whole) (rl.bind fun a => rr.bind fun b => f a b) := by
  constructor
  · intro hr Q E hQ hE
    refine wpAny_Compare1 (h1 (bind_ne hr) _ _ (fun a s₁ da e1 n1 r1 => ?_) fun e s' x ex f => hE e s' x (bind_exc ex) f) (marks_of hs)
    rw [bind_ok e1] at hr hQ hE
    refine h2 s₁ n1 (bind_ne hr) _ _ (fun b s₂ db e2 n2 r2 => ?_) fun e s' x ex f => hE e s' x (bind_exc ex) (f.from n1)
    rw [bind_ok e2] at hr hQ hE
    cases hd : f da db with
    | stuck => exact absurd hd hr
    | exc k => exact absurd hd hf
    | ok d =>
      refine hk a b s₂ da db d Q E (r1.kp n2.kp) r2 hd fun x e => ?_
      subst e
      exact hQ _ s₂ _ hd (n1.trans n2) (.bool x) fun h => by cases h
  · intro whole _ hr Q E hQ hE
    refine wpAny_isTrue_Compare1 (h1 (bind_ne hr) _ _ (fun a s₁ da e1 n1 r1 => ?_) fun e s' x ex f => hE e s' x (bind_exc ex) f) (marks_of hs)
    rw [bind_ok e1] at hr hQ hE
    refine h2 s₁ n1 (bind_ne hr) _ _ (fun b s₂ db e2 n2 r2 => ?_) fun e s' x ex f => hE e s' x (bind_exc ex) (f.from n1)
    rw [bind_ok e2] at hr hQ hE
    cases hd : f da db with
    | stuck => exact absurd hd hr
    | exc k => exact absurd hd hf
    | ok d =>
      refine hk a b s₂ da db d _ E (r1.kp n2.kp) r2 hd fun x e => ?_
      subst e
      exact wpAny_truthy_bool (hQ _ s₂ hd (n1.trans n2))

theorem eok_ite {t a b : Expr} {pos : Pos} {rt ra rb : R PyData} {fa fb : Bool} (h0 : TOk prog w hb cO A s (isTrue t env (eval t env)) rt) (h1 : ∀ s', Nx hb s s' → EOk prog w hb cO A X fa s' (eval a env) ra) (h2 : ∀ s', Nx hb s s' → EOk prog w hb cO A X fb s' (eval b env) rb) :
    EOk prog w hb cO A X false s (eval (.IfExp t a b pos) env) (rt.bind fun x => match x with | .bool true => ra | .bool false => rb | _ => .stuck) := by
  intro hr Q E hQ hE
  have hb2 : ∀ d, rt = .ok d → ∃ b, d = .bool b := by
    intro d e
    rw [bind_ok e] at hr
    split at hr
    · exact ⟨_, rfl⟩
    · exact ⟨_, rfl⟩
    · exact absurd rfl hr
  refine IfExp_ (h0 hb2 (bind_ne hr) _ _ (fun b s₁ e n1 => ?_) fun e s' x ex f => hE e s' x (bind_exc ex) f)
  rw [bind_ok e] at hr hQ hE
  cases b with
  | true => exact h1 s₁ n1 hr Q E (fun v s' d e n2 q _ => hQ v s' d e (n1.trans n2) q fun h => by cases h) fun e s' x ex f => hE e s' x ex (f.from n1)
  | false => exact h2 s₁ n1 hr Q E (fun v s' d e n2 q _ => hQ v s' d e (n1.trans n2) q fun h => by cases h) fun e s' x ex f => hE e s' x ex (f.from n1)
theorem tok_ite {t a b : Expr} {pos : Pos} {rt ra rb : R PyData} {whole : Sem Value} (h0 : TOk prog w hb cO A s (isTrue t env (eval t env)) rt) (h1 : ∀ s', Nx hb s s' → TOk prog w hb cO A s' (isTrue a env (eval a env)) ra) (h2 : ∀ s', Nx hb s s' → TOk prog w hb cO A s' (isTrue b env (eval b env)) rb) :
    TOk prog w hb cO A s (isTrue (.IfExp t a b pos) env whole) (rt.bind fun x => match x with | .bool true => ra | .bool false => rb | _ => .stuck) := by
  intro hbb hr Q E hQ hE
  have hb2 : ∀ d, rt = .ok d → ∃ b, d = .bool b := by
    intro d e
    rw [bind_ok e] at hr
    split at hr
    · exact ⟨_, rfl⟩
    · exact ⟨_, rfl⟩
    · exact absurd rfl hr
  refine isTrue_IfExp (h0 hb2 (bind_ne hr) _ _ (fun b s₁ e n1 => ?_) fun e s' x ex f => hE e s' x (bind_exc ex) f)
  rw [bind_ok e] at hr hQ hE hbb
  cases b with
  | true => exact h1 s₁ n1 hbb hr Q E (fun v s' e n2 => hQ v s' e (n1.trans n2)) fun e s' x ex f => hE e s' x ex (f.from n1)
  | false => exact h2 s₁ n1 hbb hr Q E (fun v s' e n2 => hQ v s' e (n1.trans n2)) fun e s' x ex f => hE e s' x ex (f.from n1)

noncomputable def bopR (isAnd : Bool) (rl rr : R PyData) : R PyData := rl.bind fun a => match a with
  | .bool b => if b == isAnd then rr.bind (fun d => match d with | .bool x => .ok (.bool x) | _ => .stuck) else .ok (.bool b)
  | _ => .stuck
theorem bopR_l {isAnd : Bool} {rl rr : R PyData} (h : bopR isAnd rl rr ≠ .stuck) : ∀ d, rl = .ok d → ∃ b, d = .bool b := by
  intro d e
  subst e
  cases d <;> first | exact ⟨_, rfl⟩ | exact absurd rfl h
theorem bopR_r {isAnd : Bool} {rr : R PyData} (h : bopR isAnd (.ok (.bool isAnd)) rr ≠ .stuck) : rr ≠ .stuck ∧ ∀ d, rr = .ok d → ∃ b, d = .bool b := by
  simp only [bopR, R.bind, beq_self_eq_true, if_true] at h
  constructor
  · rintro rfl; exact h rfl
  · intro d e
    subst e
    cases d <;> first | exact ⟨_, rfl⟩ | exact absurd rfl h
theorem bopR_eq {isAnd : Bool} {rr : R PyData} (h : bopR isAnd (.ok (.bool isAnd)) rr ≠ .stuck) : bopR isAnd (.ok (.bool isAnd)) rr = rr := by
  have h2 := (bopR_r h).2
  simp only [bopR, R.bind, beq_self_eq_true, if_true]
  cases rr with
  | ok d =>
    obtain ⟨b, rfl⟩ := h2 d rfl
    rfl
  | exc k => rfl
  | stuck => rfl
theorem bopR_no {isAnd b : Bool} {rr : R PyData} (h : (b == isAnd) = false) : bopR isAnd (.ok (.bool b)) rr = .ok (.bool b) := by
  simp only [bopR, R.bind, h]; rfl

theorem eok_bop {isAnd : Bool} {l r : Expr} {es : List Expr} {pos : Pos} {rl rr : R PyData} {fa fb : Bool} (h1 : EOk prog w hb cO A X fa s (eval l env) rl) (h2 : ∀ s', Nx hb s s' → EOk prog w hb cO A X fb s' (eval (.BoolOp (bopOf isAnd) (r :: es) pos) env) rr) :
    EOk prog w hb cO A X false s (eval (.BoolOp (bopOf isAnd) (l :: r :: es) pos) env) (bopR isAnd rl rr) := by
  intro hr Q E hQ hE
  have hl := bopR_l hr
  have hls : rl ≠ .stuck := by rintro rfl; exact hr rfl
  have key : ∀ v s₁ d, rl = .ok d → Nx hb s s₁ → Rp prog w s₁.heap (fun a => ¬ X a) v d → ∃ b, v = .bool b ∧ if b == isAnd then wpAny (model prog w) A (eval (.BoolOp (bopOf isAnd) (r :: es) pos) env) Q E s₁ else Q v s₁ := by
    intro v s₁ d e n1 q
    obtain ⟨b, rfl⟩ := hl d e
    cases q
    refine ⟨b, rfl, ?_⟩
    subst e
    cases hb' : (b == isAnd) with
    | false =>
      rw [bopR_no hb'] at hQ
      exact hQ _ _ _ rfl n1 (.bool b) fun h => by cases h
    | true =>
      have : b = isAnd := by simpa using hb'
      subst this
      rw [bopR_eq hr] at hQ hE hr
      exact h2 s₁ n1 hr Q E (fun v s' d e n2 q _ => hQ v s' d e (n1.trans n2) q fun h => by cases h) fun e s' x ex f => hE e s' x ex (f.from n1)
  have hE' : ∀ e s' x, rl = .exc x → Flown hb s s' e (exCls cO x) → E (.ref e) s' := fun e s' x ex f => hE e s' x (by subst ex; rfl) f
  cases isAnd with
  | true =>
    refine BoolOp_and (h1 hls _ _ (fun v s₁ d e n1 q _ => ?_) hE')
    obtain ⟨b, rfl, hk⟩ := key v s₁ d e n1 q
    refine wpAny_truthy_bool ?_
    cases b with
    | true => simpa [bopOf] using hk
    | false => simpa [bopOf] using hk
  | false =>
    refine BoolOp_or (h1 hls _ _ (fun v s₁ d e n1 q _ => ?_) hE')
    obtain ⟨b, rfl, hk⟩ := key v s₁ d e n1 q
    refine wpAny_truthy_bool ?_
    cases b with
    | true => simpa [bopOf] using hk
    | false => simpa [bopOf] using hk
theorem tok_bop {isAnd : Bool} {l : Expr} {es : List Expr} {pos : Pos} {rl rr : R PyData} {whole : Sem Value} (h1 : TOk prog w hb cO A s (isTrue l env (eval l env)) rl) (h2 : ∀ s', Nx hb s s' → TOk prog w hb cO A s' (isTrue (.BoolOp (bopOf isAnd) es pos) env whole) rr) :
    TOk prog w hb cO A s (isTrue (.BoolOp (bopOf isAnd) (l :: es) pos) env whole) (bopR isAnd rl rr) := by
  intro _ hr Q E hQ hE
  have hl := bopR_l hr
  have hls : rl ≠ .stuck := by rintro rfl; exact hr rfl
  have hE' : ∀ e s' x, rl = .exc x → Flown hb s s' e (exCls cO x) → E (.ref e) s' := fun e s' x ex f => hE e s' x (by subst ex; rfl) f
  cases isAnd with
  | true =>
    refine isTrue_and (h1 hl hls _ _ (fun b s₁ e n1 => ?_) hE')
    subst e
    cases b with
    | true =>
      have hh := bopR_r hr
      rw [bopR_eq hr] at hQ hE hr
      simpa [bopOf] using h2 s₁ n1 hh.2 hh.1 Q E (fun v s' e n2 => hQ v s' e (n1.trans n2)) fun e s' x ex f => hE e s' x ex (f.from n1)
    | false =>
      rw [bopR_no rfl] at hQ
      simpa using hQ _ _ rfl n1
  | false =>
    refine isTrue_or (h1 hl hls _ _ (fun b s₁ e n1 => ?_) hE')
    subst e
    cases b with
    | false =>
      have hh := bopR_r hr
      rw [bopR_eq hr] at hQ hE hr
      simpa [bopOf] using h2 s₁ n1 hh.2 hh.1 Q E (fun v s' e n2 => hQ v s' e (n1.trans n2)) fun e s' x ex f => hE e s' x ex (f.from n1)
    | true =>
      rw [bopR_no rfl] at hQ
      simpa using hQ _ _ rfl n1
end
end Mine

-- M10
namespace Mine
open PySem PySem.Calls PyProof.Rows

section
variable {prog : Program} {w : World} {hb : Heap} {cO : Addr} {A : Around} {Γ : Sc} {env : Env} {ρ : Rho} {c : Option PyData} {X O : Addr → Prop} {s : Shared} {T : Tb} {F : FT} {n : Nat}

theorem call1_blt {g y : Str} {fp pos : Pos} {a : Expr} {id : String} {Q : Value → Shared → Prop} {E : Value → Shared → Prop} (S : SE prog w hb A Γ env ρ c X O s) (hg : Γ.isBlt g y = true) (B : Blt hb y (.builtin id)) (hn : [a].all noStar = true)
    (h : wpAny (model prog w) A (eval a env) (fun v s₁ => wpAny (model prog w) A (call (.builtin id) [v]) Q E s₁) E s) : wpAny (model prog w) A (eval (.Call (.Name g fp) [a] [] pos) env) Q E s := by
  refine wpAny_Call_NameR (S.blt hg B ?_)
  rw [backTo_plain pos env [a] hn]
  refine callWith_builtin rfl (evalArgs_plain (spliced_cons (wpAny_mono h (fun v s₁ h₁ => spliced_nil ?_) fun _ _ e => e)))
  exact h₁
theorem call2_blt {g y : Str} {fp pos : Pos} {a b : Expr} {id : String} {Q : Value → Shared → Prop} {E : Value → Shared → Prop} (S : SE prog w hb A Γ env ρ c X O s) (hg : Γ.isBlt g y = true) (B : Blt hb y (.builtin id)) (hn : [a, b].all noStar = true)
    (h : wpAny (model prog w) A (eval a env) (fun v s₁ => wpAny (model prog w) A (eval b env) (fun u s₂ => wpAny (model prog w) A (call (.builtin id) [v, u]) Q E s₂) E s₁) E s) : wpAny (model prog w) A (eval (.Call (.Name g fp) [a, b] [] pos) env) Q E s := by
  refine wpAny_Call_NameR (S.blt hg B ?_)
  rw [backTo_plain pos env [a, b] hn]
  refine callWith_builtin rfl (evalArgs_plain (spliced_cons (wpAny_mono h (fun v s₁ h₁ => spliced_cons (wpAny_mono h₁ (fun u s₂ h₂ => spliced_nil ?_) fun _ _ e => e)) fun _ _ e => e)))
  exact h₂
theorem call1_typ {g y : Str} {fp pos : Pos} {a : Expr} {id : String} {Q : Value → Shared → Prop} {E : Value → Shared → Prop} (S : SE prog w hb A Γ env ρ c X O s) (hg : Γ.isBlt g y = true) (B : Blt hb y (.type id)) (hn : [a].all noStar = true)
    (h : wpAny (model prog w) A (eval a env) (fun v s₁ => wpAny (model prog w) A (call (.type id) [v]) Q E s₁) E s) : wpAny (model prog w) A (eval (.Call (.Name g fp) [a] [] pos) env) Q E s := by
  refine wpAny_Call_NameR (S.blt hg B ?_)
  rw [backTo_plain pos env [a] hn]
  refine callWith_excType rfl (evalArgs_plain (spliced_cons (wpAny_mono h (fun v s₁ h₁ => spliced_nil ?_) fun _ _ e => e)))
  exact h₁

theorem eok_call {f : Nat} {g y : Str} {fp pos : Pos} {args : List Expr} {rs : R (List PyData)} (G : GF prog w hb cO T F n) (hA : Room A n) (S : SE prog w hb A Γ env ρ c X O s) (hy : T.fn[f]? = some y) (hg : Γ.isGlob g y = true) (hn : args.all noStar = true) (hne : args ≠ [])
    (h : LOk prog w hb cO A X s (args.map fun p => (false, eval p env)) rs) :
    EOk prog w hb cO A X false s (eval (.Call (.Name g fp) args [] pos) env) (rs.bind fun ds => F.fn f ds) := by
  intro hr Q E hQ hE
  obtain ⟨a, o, fd, hgl, ho, hd, hc⟩ := G.fn f y hy
  refine wpAny_Call_NameR (S.glob hg hgl ?_)
  rw [backTo_plain pos env args hn]
  refine callWith_function (o := o) (fd := fd) ?_
  cases args with
  | nil => exact absurd rfl hne
  | cons p q =>
    refine evalArgs_plain (h (bind_ne hr) _ _ (fun vs s₁ ds e1 n1 r1 => ⟨⟨n1.kp.stays S.stays _ _ ho, hd⟩, ?_⟩) fun e s' x ex f => hE e s' x (bind_exc ex) f)
    rw [bind_ok e1] at hr hQ hE
    have S₁ := S.nx n1
    have hlt : f < n := by
      rcases Nat.lt_or_ge f n with h | h
      · exact h
      · exact absurd (G.few f ds h) hr
    refine hc A s₁ X vs ds ⟨?_, ?_, hA.2.2⟩ S₁.stays S₁.stk S₁.bare S₁.xin S₁.xnew r1 hr Q E (fun v s' d e2 n2 r2 => hQ v s' d e2 (n1.trans n2) r2 fun h => by cases h) fun e s' x ex f => hE e s' x ex (f.from n1)
    · have := hA.1; omega
    · have := hA.2.1; omega

theorem eok_tup {es : List Expr} {k : Nat} {pos : Pos} {rs : R (List PyData)} (S : SE prog w hb A Γ env ρ c X O s) (hn : es.all noStar = true) (hl : ∀ ds, rs = .ok ds → ds.length ≤ 1000)
    (h : LOk prog w hb cO A X s (es.map fun p => (false, eval p env)) rs) : EOk prog w hb cO A X false s (eval (.Tuple es k pos) env) (rs.bind fun ds => .ok (.tuple ds)) := by
  intro hr Q E hQ hE
  refine Tuple_ ?_
  rw [backTo_plain pos env es hn]
  refine h (bind_ne hr) _ _ (fun vs s₁ ds e1 n1 r1 => ?_) fun e s' x ex f => hE e s' x (bind_exc ex) f
  rw [bind_ok e1] at hQ
  have hl' := hl ds e1
  have e2 := r1.length
  refine wpAny_newObj_type (hQ _ _ _ rfl (n1.trans (.push' _ _)) (Rp.newTuple ((S.nx n1).xin) r1 (by rw [LIM_eq]; omega)) fun h => by cases h) ?_
  show vs.toArray.size ≤ sizeLine
  rw [List.size_toArray, sizeLine_eq]; omega
theorem eok_lst {es : List Expr} {pos : Pos} {rs : R (List PyData)} (S : SE prog w hb A Γ env ρ c X O s) (hn : es.all noStar = true) (hl : ∀ ds, rs = .ok ds → ds.length ≤ 1000)
    (h : LOk prog w hb cO A X s (es.map fun p => (false, eval p env)) rs) : EOk prog w hb cO A X true s (eval (.List es pos) env) (rs.bind fun ds => .ok (.list ds)) := by
  intro hr Q E hQ hE
  refine List_ ?_
  rw [backTo_plain pos env es hn]
  refine h (bind_ne hr) _ _ (fun vs s₁ ds e1 n1 r1 => ?_) fun e s' x ex f => hE e s' x (bind_exc ex) f
  rw [bind_ok e1] at hQ
  have hl' := hl ds e1
  have e2 := r1.length
  refine wpAny_newObj_type (hQ _ _ _ rfl (n1.trans (.push' _ _)) (Rp.newList ((S.nx n1).xin) r1 (by rw [LIM_eq]; omega)) fun _ _ _ => ⟨_, rfl, n1.kp.none (get_size _)⟩) ?_
  show vs.toArray.size ≤ sizeLine
  rw [List.size_toArray, sizeLine_eq]; omega

theorem eok_idx {v k : Expr} {pos : Pos} {rv rk : R PyData} {fr : Bool} (hs : ∀ o i, subscripted k false o i = operate [o, i] (getItem o i)) (h1 : SOk prog w hb cO A X s (eval v env) rv) (h2 : ∀ s', Nx hb s s' → EOk prog w hb cO A X fr s' (eval k env) rk) :
    EOk prog w hb cO A X false s (eval (.Subscript v k pos) env) (rv.bind fun x => rk.bind fun i => idxD x i) := by
  intro hr Q E hQ hE
  refine Subscript_ (h1 (bind_ne hr) _ _ (fun a s₁ da e1 n1 r1 => ?_) fun e s' x ex f => hE e s' x (bind_exc ex) f)
  rw [bind_ok e1] at hr hQ hE
  refine h2 s₁ n1 (bind_ne hr) _ _ (fun b s₂ db e2 n2 r2 _ => ?_) fun e s' x ex f => hE e s' x (bind_exc ex) (f.from n1)
  rw [bind_ok e2] at hr hQ hE
  cases hd : idxD da db with
  | stuck => exact absurd hd hr
  | exc k => exact absurd hd idxD_ne
  | ok d => exact op_idx (hb := hb) hs (r1.kp n2.kp) (.inl r2) hd fun v s' n3 q => hQ v s' d hd ((n1.trans n2).trans n3) q fun h => by cases h

theorem eval_Slice' {lo up : Option Expr} {pos : Pos} : eval (.Slice lo up none pos) env = (do
    let l ← valueOrNone (evalOpt lo env)
    let u ← holding [l] (valueOrNone (evalOpt up env))
    let s ← holding [l, u] (valueOrNone none)
    newFields "slice" [l, u, s]) := rfl

theorem eok_sl {v l u : Expr} {sp pos : Pos} {rv rl ru : R PyData} {fl fu : Bool} (S : SE prog w hb A Γ env ρ c X O s) (h1 : SOk prog w hb cO A X s (eval v env) rv) (h2 : ∀ s', Nx hb s s' → EOk prog w hb cO A X fl s' (eval l env) rl) (h3 : ∀ s', Nx hb s s' → EOk prog w hb cO A X fu s' (eval u env) ru) :
    EOk prog w hb cO A X true s (eval (.Subscript v (.Slice (some l) (some u) none sp) pos) env) (rv.bind fun x => rl.bind fun i => ru.bind fun j => slD x i j) := by
  intro hr Q E hQ hE
  refine Subscript_ (h1 (bind_ne hr) _ _ (fun a s₁ da e1 n1 r1 => ?_) fun e s' x ex f => hE e s' x (bind_exc ex) f)
  rw [bind_ok e1] at hr hQ hE
  rw [eval_Slice']
  refine wpAny_bind (h2 s₁ n1 (bind_ne hr) _ _ (fun b s₂ db e2 n2 r2 _ => ?_) fun e s' x ex f => hE e s' x (bind_exc ex) (f.from n1))
  rw [bind_ok e2] at hr hQ hE
  refine wpAny_bind (wpAny_holding (h3 s₂ (n1.trans n2) (bind_ne hr) _ _ (fun c' s₃ dc e3 n3 r3 _ => ?_) fun e s' x ex f => hE e s' x (bind_exc ex) (f.from (n1.trans n2))))
  rw [bind_ok e3] at hr hQ hE
  refine wpAny_bind (wpAny_holding (wpAny_pure (wpAny_newObj_type ?_)))
  have n13 := (n1.trans n2).trans n3
  cases hd : slD da db dc with
  | stuck => exact absurd hd hr
  | exc k => exact absurd hd slD_ne
  | ok d => exact op_sl (hb := hb) ((S.nx n13).xin) (r1.kp (n2.trans n3).kp) (.inl (r2.kp n3.kp)) (.inl r3) hd fun v s' n4 q nl => hQ v s' d hd (n13.trans n4) q fun _ => nl.from n13
theorem eok_slTo {v u : Expr} {sp pos : Pos} {rv ru : R PyData} {fu : Bool} (S : SE prog w hb A Γ env ρ c X O s) (h1 : SOk prog w hb cO A X s (eval v env) rv) (h3 : ∀ s', Nx hb s s' → EOk prog w hb cO A X fu s' (eval u env) ru) :
    EOk prog w hb cO A X true s (eval (.Subscript v (.Slice none (some u) none sp) pos) env) (rv.bind fun x => ru.bind fun j => slToD x j) := by
  intro hr Q E hQ hE
  refine Subscript_ (h1 (bind_ne hr) _ _ (fun a s₁ da e1 n1 r1 => ?_) fun e s' x ex f => hE e s' x (bind_exc ex) f)
  rw [bind_ok e1] at hr hQ hE
  rw [eval_Slice']
  refine wpAny_bind (wpAny_pure ?_)
  refine wpAny_bind (wpAny_holding (h3 s₁ n1 (bind_ne hr) _ _ (fun c' s₃ dc e3 n3 r3 _ => ?_) fun e s' x ex f => hE e s' x (bind_exc ex) (f.from n1)))
  rw [bind_ok e3] at hr hQ hE
  refine wpAny_bind (wpAny_holding (wpAny_pure (wpAny_newObj_type ?_)))
  have n13 := n1.trans n3
  cases hd : slToD da dc with
  | stuck => exact absurd hd hr
  | exc k => exact absurd hd slToD_ne
  | ok d => exact op_slTo (hb := hb) ((S.nx n13).xin) (r1.kp n3.kp) (.inl r3) hd fun v s' n4 q nl => hQ v s' d hd (n13.trans n4) q fun _ => nl.from n13
theorem eok_slFrom {v u : Expr} {sp pos : Pos} {rv ru : R PyData} {fu : Bool} (S : SE prog w hb A Γ env ρ c X O s) (h1 : SOk prog w hb cO A X s (eval v env) rv) (h3 : ∀ s', Nx hb s s' → EOk prog w hb cO A X fu s' (eval u env) ru) :
    EOk prog w hb cO A X true s (eval (.Subscript v (.Slice (some u) none none sp) pos) env) (rv.bind fun x => ru.bind fun j => slFromD x j) := by
  intro hr Q E hQ hE
  refine Subscript_ (h1 (bind_ne hr) _ _ (fun a s₁ da e1 n1 r1 => ?_) fun e s' x ex f => hE e s' x (bind_exc ex) f)
  rw [bind_ok e1] at hr hQ hE
  rw [eval_Slice']
  refine wpAny_bind (h3 s₁ n1 (bind_ne hr) _ _ (fun c' s₃ dc e3 n3 r3 _ => ?_) fun e s' x ex f => hE e s' x (bind_exc ex) (f.from n1))
  rw [bind_ok e3] at hr hQ hE
  refine wpAny_bind (wpAny_holding (wpAny_pure ?_))
  refine wpAny_bind (wpAny_holding (wpAny_pure (wpAny_newObj_type ?_)))
  have n13 := n1.trans n3
  cases hd : slFromD da dc with
  | stuck => exact absurd hd hr
  | exc k => exact absurd hd slFromD_ne
  | ok d => exact op_slFrom (hb := hb) ((S.nx n13).xin) (r1.kp n3.kp) (.inl r3) hd fun v s' n4 q nl => hQ v s' d hd (n13.trans n4) q fun _ => nl.from n13

end
end Mine

-- M11
namespace Mine
open PySem PySem.Calls PyProof.Rows

theorem lowSize {hb h : Heap} (hn : hb.NoLimit) (st : hb.StaysIn h) : (h.objs.size == sysModules) = false := by
  obtain ⟨mc, ⟨o, es, ep, e, _⟩, _⟩ := hn
  have := Heap.lt_size (st _ _ e)
  have h2 : cStatics = 2 := rfl
  have h1 : sysModules = 1 := rfl
  rw [h2] at this
  rw [h1, beq_eq_false_iff_ne]
  intro q
  rw [q] at this
  exact absurd this (by decide)

section
variable {prog : Program} {w : World} {hb : Heap} {cO : Addr} {A : Around} {E : Value → Shared → Prop} {s : Shared} {X : Addr → Prop} {Q : Value → Shared → Prop}

theorem stored_zip {h : Heap} {P : Addr → Prop} {k : Int} {v : Value} {d : PyData} (rv : Rp prog w h P v d) : ∀ {kvs : List (Int × Value)} {es : List PyData}, RpL prog w h P (kvs.map (·.2)) es → (kvs.map (·.1)).Nodup →
    ∃ es', zipD ((stored kvs k v).map (·.1)) es' = dset (zipD (kvs.map (·.1)) es) k d ∧ RpL prog w h P ((stored kvs k v).map (·.2)) es' ∧ es'.length ≤ es.length + 1 ∧ (∀ j ∈ (stored kvs k v).map (·.1), j = k ∨ j ∈ kvs.map (·.1))
  | [], es, r, _ => by
    cases r
    exact ⟨[d], rfl, .cons rv .nil, by simp, by simp [stored]⟩
  | (j, u) :: kvs, es, r, hn => by
    simp only [List.map_cons] at r hn
    cases r with
    | @cons _ _ e es' r1 r2 =>
      obtain ⟨hj, hn'⟩ := List.nodup_cons.mp hn
      by_cases hjk : j = k
      · subst hjk
        have hid : kvs.map (fun kv => if kv.1 = j then (kv.1, v) else kv) = kvs := by
          conv => rhs; rw [← List.map_id kvs]
          apply List.map_congr_left
          intro kv hkv
          rw [if_neg (fun q => hj (by rw [← q]; exact List.mem_map_of_mem hkv))]
          rfl
        have e2 : stored ((j, u) :: kvs) j v = (j, v) :: kvs := by
          simp only [stored, List.any_cons, decide_true, Bool.true_or, if_true, List.map_cons, hid]
        rw [e2]
        refine ⟨d :: es', ?_, .cons rv r2, by simp, ?_⟩
        · simp [zipD, dset]
        · intro x hx
          exact .inr hx
      · obtain ⟨es'', h1, h2, h3, h4⟩ := stored_zip rv r2 hn' (k := k)
        have e2 : stored ((j, u) :: kvs) k v = (j, u) :: stored kvs k v := by
          unfold stored
          simp only [List.any_cons, decide_eq_false hjk, Bool.false_or]
          split
          · rw [List.map_cons, if_neg hjk]
          · rfl
        rw [e2]
        refine ⟨e :: es'', ?_, .cons r1 h2, by simpa using h3, ?_⟩
        · simp [zipD, dset, hjk, h1]
        · intro x hx
          simp only [List.map_cons, List.mem_cons] at hx ⊢
          rcases hx with rfl | hx
          · exact .inr (.inl rfl)
          · rcases h4 x hx with q | q
            · exact .inl q
            · exact .inr (.inr q)

theorem dmake_cons {d : PyData} {ds : List PyData} {acc : List (PyData × PyData)} {r : PyData} (h : dmake (d :: ds) acc = .ok r) : ∃ k e, d = .tuple [.int k, e] ∧ dmake ds (dset acc k e) = .ok r := by
  unfold dmake at h
  split at h
  · rename_i heq
    cases heq
    exact ⟨_, _, rfl, h⟩
  · rename_i heq; cases heq
  · cases h
theorem entry_upd : entryFor table "dict.update.loop" = some Builtin.«dict.update.loop» := entryFor_of_tree (by kernel_rfl)
theorem plain_upd : plainId "dict.update.loop" = true := by decide +kernel

theorem upd_loop {D it l : Addr} {n : Nat} {vs : List Value} {P : Addr → Prop} {R : Result → Shared → Prop} (hh : A.handled = none) (hDl : l ≠ D) (hDi : it ≠ D) (hil : it ≠ l) (hP : ∀ a, P a → a ≠ D ∧ a ≠ it) :
    ∀ (rest : List Value) (ds : List PyData) (i : Nat) (s : Shared) (kvs : List (Int × Value)) (es : List PyData) (res : List (PyData × PyData)), vs.drop i = rest → i + rest.length = vs.length →
      s.heap.IsListIter it l i → s.heap.get? l = some { cls := .type "list", data := .seq vs.toArray n } → RpL prog w s.heap P rest ds → s.heap.DictOf (intKind prog w) D kvs → RpL prog w s.heap P (kvs.map (·.2)) es →
      es.length + rest.length ≤ LIM → dmake ds (zipD (kvs.map (·.1)) es) = .ok (.dict res) →
      (∀ s' kvs' es', s'.os = s.os → s'.gens = s.gens → (∀ b o, b ≠ D → b ≠ it → s.heap.get? b = some o → s'.heap.get? b = some o) → s'.heap.DictOf (intKind prog w) D kvs' → RpL prog w s'.heap P (kvs'.map (·.2)) es' → es'.length ≤ LIM →
        res = zipD (kvs'.map (·.1)) es' → R (.ok (.ret .none)) s') →
      codeAny (model prog w) A (.builtin "dict.update.loop" ⟨[.ref D, .ref it, rawInt i, .none], []⟩) R s
  | [], ds, i, s, kvs, es, res, hdr, hlen, hit, hl, rr, hm, re, hsz, hd, hR => by
    cases rr
    simp only [dmake] at hd
    cases hd
    refine codeAny_builtin entry_upd ?_
    rw [Around.under_plainId plain_upd]
    show wpAny _ _ (pyNext (.ref it) >>= _) _ _ _
    refine wpAny_bind (wpAny_pyNext_list_end (A := A.in1) hh hit (isList_of hl) ?_ fun h' he => ?_)
    · simp only [List.getElem?_toArray]
      rw [List.getElem?_eq_none]
      simp at hlen; omega
    · show wpAny _ _ (Builtin.Dict.addKeywords D [] >>= fun _ => ret .none) _ _ _
      refine wpAny_bind (wpAny_pure (wpAny_pure (hR _ kvs es rfl rfl (fun b o h1 h2 e => he b o h2 e) (hm.extBut he (Ne.symm hDi)) (re.to (fun _ p => p) fun a o p e _ => he a o (hP a p).2 e) (by simpa using hsz) rfl)))
  | v :: rest, ds, i, s, kvs, es, res, hdr, hlen, hit, hl, rr, hm, re, hsz, hd, hR => by
    cases rr with
    | @cons _ _ d ds' r1 r2 =>
      have hvi : vs[i]? = some v := by
        have := List.getElem?_drop (xs := vs) (i := i) (j := 0)
        rw [hdr] at this
        simpa using this.symm
      have hn := (let ⟨_, _, _, _, _, _, _, _, hn⟩ := hm; hn : (kvs.map (·.1)).Nodup)
      obtain ⟨k, d', rfl, hd⟩ := dmake_cons hd
      cases r1 with
      | @tuple t ws m _ pt gt lt rt =>
        cases rt with
        | @cons k' _ _ _ rk rt =>
          cases rt with
          | @cons vd _ _ _ rd rt =>
            cases rt
            cases rk with
            | int k tok =>
              refine codeAny_builtin entry_upd ?_
              rw [Around.under_plainId plain_upd]
              show wpAny _ _ (pyNext (.ref it) >>= _) _ _ _
              refine wpAny_bind (wpAny_pyNext_list_item hit (isList_of hl) (x := .ref t) (by simpa using hvi) fun h' hit' hs' => ?_)
              have gt' : h'.get? t = some { cls := .type "tuple", data := .seq [Value.int k tok, vd].toArray m } := hs'.extBut t _ (hP t pt).2 gt
              have hm' : h'.DictOf (intKind prog w) D kvs := hm.sameBut hs' (Ne.symm hDi)
              have e1 : kvs.length = es.length := by have := re.length; simpa using this
              have hsz' : es.length + (rest.length + 1) ≤ 1048576 := hsz
              refine wpAny_bind (wpAny_holding (wpAny_bind (wpAny_tryCatch (wpAny_bind (wpAny_typeOf (T := "tuple") ⟨_, gt', rfl⟩ ?_)))))
              show wpAny _ _ (seqItems? (.ref t) >>= fun r => pure ((r.getD #[]).toList)) _ _ _
              refine wpAny_bind (wpAny_seqItems gt' rfl (wpAny_pure ?_))
              show wpAny _ _ (holding [Value.int k tok, vd] (dictSet D (Value.int k tok) vd)) _ _ _
              refine wpAny_holding (wpAny_dictSet_pairs (knd := intKind prog w) (k := k) (by simp [intKind, Value.isInt]) hm' (fun h'' hm'' hs'' => ?_) (by rw [e1, sizeLine_eq]; omega))
              have up : ∀ a o, P a → s.heap.get? a = some o → h''.get? a = some o := fun a o p e => hs''.extBut a o (hP a p).1 (hs'.extBut a o (hP a p).2 e)
              obtain ⟨es', z1, z2, z3, _⟩ := stored_zip (prog := prog) (w := w) (k := k) rd re hn
              refine wpAny_pure ⟨Code.quiet_builtin _ (by decide +kernel), ?_⟩
              refine upd_loop hh hDl hDi hil hP rest ds' (i + 1) { s with heap := h'', toks := s.toks + 1 } (stored kvs k vd) es' res ?_ (by simp at hlen; omega) (hit'.extBut hs''.extBut hDi) (hs''.extBut l _ hDl (hs'.extBut l _ (Ne.symm hil) hl))
                (r2.to (fun _ p => p) fun a o p e _ => up a o p e) hm'' (z2.to (fun _ p => p) fun a o p e _ => up a o p e) ?_ (by rw [z1]; exact hd) fun s' kvs' es'' o1 o2 k1 k2 k3 k4 k5 => ?_
              · rw [← List.drop_drop, hdr]; rfl
              · rw [LIM_eq]; omega
              · exact hR s' kvs' es'' o1 o2 (fun b o h1 h2 e => k1 b o h1 h2 (hs''.extBut b o h1 (hs'.extBut b o h2 e))) k2 k3 k4 k5

theorem keys_miss {l : Addr} {n : Nat} {vs : List Value} {R : Option Value → Shared → Prop} (hh : A.handled = none) (hl : s.heap.get? l = some { cls := .type "list", data := .seq vs.toArray n })
    (h : ∀ h' tk, (∀ b o, s.heap.get? b = some o → h'.get? b = some o) → R none { s with heap := h', toks := tk }) : wpAny (model prog w) A (getAttr? (.ref l) "keys") R E s := by
  obtain ⟨hp, g, d, tk, os⟩ := s
  have hT : ∀ tk', (⟨hp, g, d, tk', os⟩ : Shared).TypeIs (.ref l) "list" := fun _ => ⟨_, hl, rfl⟩
  have f1 := sub_AttributeError
  have f3 := F.slot_list_getattribute.lookup
  have f4 := F.slot_list_getattribute.bind (.ref l)
  have f5 := am_list_getattr_none
  have hmiss : typeLookup (.type "list") "keys" = pure none := by rw [typeLookup_type, builtinLookup_eq_fast]; kernel_rfl
  have hname : (["__module__", "__name__", "__qualname__", "__doc__", "__annotations__"] : List Str).contains "keys" = false := by decide +kernel
  unfold getAttr? getAttrBy? getAttrBy
  repeat (any_goals (first | assumption | exact hT _ | ((with_reducible show wpAny _ _ (call (Value.builtin "list.__getattribute__") _ _) _ _ _); refine call_meets F.slot_list_getattribute (hT _) am_entry_list_getattribute (F.args_list_getattribute_2 _ _) (meets_getattribute_miss_list l vs.toArray n #[] "keys" _ hmiss hname (by rw [sizeLine_eq]; decide +kernel)) ⟨hl, hh, fun h' tk' e hx' => ?_⟩) | wp_step))
  obtain ⟨t', u', he⟩ := hx'.there
  show wpAny _ _ (getattributeRaised _ _ _ _ _ _ _) _ _ _
  unfold getattributeRaised
  repeat (any_goals (first | assumption | wp_step))
  exact h h' tk' hx'.keeps

theorem op_mkdict {a : Value} {da d : PyData} (hh : A.handled = none) (hX : XIn X s.heap) (hn : hb.NoLimit) (st : hb.StaysIn s.heap) (ra : Sm prog w s.heap X a da) (hd : mkdictD da = .ok d)
    (h : ∀ v s', Nx hb s s' → Rp prog w s'.heap (fun a => ¬ X a) v d → Q v s') : wpAny (model prog w) A (call (.type "dict") [a]) Q E s := by
  cases da with
  | list xs =>
    obtain ⟨l, vs, n, rfl, g, hl, r⟩ := ra.list
    have hres : ∃ res, d = .dict res := by
      clear ra r h hl
      replace hd : dmake xs [] = .ok d := hd
      generalize ([] : List (PyData × PyData)) = acc at hd
      induction xs generalizing acc with
      | nil => simp only [dmake] at hd; cases hd; exact ⟨_, rfl⟩
      | cons x xs ih =>
        obtain ⟨k, e, _, hd'⟩ := dmake_cons hd
        exact ih _ hd'
    obtain ⟨res, rfl⟩ := hres
    refine callType_codes (Q₁ := fun obj s₁ => obj = .ref s.heap.objs.size ∧ s₁ = { s with heap := s.heap.push { cls := .type "dict", data := .dict #[] } }) PySem.F.kt_called_dict (PySem.F.kt_typeCall_dict_1 _) F.entry_dict_init (kt_code_dict_new _ ⟨rfl, rfl⟩) ?_
    rintro obj s₁ ⟨rfl, rfl⟩
    have hnew : (s.heap.push { cls := .type "dict", data := .dict #[] }).DictOf (intKind prog w) s.heap.objs.size [] := Heap.DictOf.new s.heap
    have g1 : (s.heap.push { cls := .type "dict", data := .dict #[] }).get? l = some { cls := .type "list", data := .seq vs.toArray n } := Heap.get?_push_of_some _ g
    refine ⟨hnew.typeIs, F.args_dict_init_2 _ _, ?_⟩
    unfold Builtin.«dict.__init__»
    refine wpAny_bind ?_
    unfold Builtin.Dict.selfAndRest
    refine wpAny_bind (wpAny_notOrdered_dict hnew.typeIs ?_)
    show wpAny _ _ (pure (s.heap.objs.size, [Value.ref l])) _ _ _
    refine wpAny_pure ?_
    show wpAny _ _ (Builtin.Dict.updateFrom "dict.__init__" s.heap.objs.size (.ref l) [] .none) _ _ _
    unfold Builtin.Dict.updateFrom
    refine wpAny_bind (wpAny_typeOf (isList_of g1).typeIs ?_)
    rw [if_pos (by decide)]
    refine wpAny_bind (keys_miss (A := A.in1.in1) hh g1 fun h₁ tk₁ hk₁ => ?_)
    rw [if_pos (by rfl)]
    have g2 : h₁.get? l = some { cls := .type "list", data := .seq vs.toArray n } := hk₁ _ _ g1
    refine wpAny_bind (wpAny_rule (wpAny_bind (wpAny_pyIter_list (isList_of g2) (wpAny_pure ?_))))
    refine ⟨Code.quiet_builtin _ (by decide +kernel), ?_⟩
    have hlt : l < s.heap.objs.size := Heap.lt_size g
    have hD1 : h₁.get? s.heap.objs.size ≠ none := by
      rw [hk₁ _ _ (Heap.get?_push_size _ rfl)]; simp
    have hDlt : s.heap.objs.size < h₁.objs.size := by
      cases q : h₁.get? s.heap.objs.size with
      | none => exact absurd q hD1
      | some o => exact Heap.lt_size q
    have keep : ∀ b o, s.heap.get? b = some o → (h₁.push { cls := .type "list_iterator", data := .fields #[.ref l, .int 0 0] }).get? b = some o := fun b o e => Heap.get?_push_of_some _ (hk₁ b o (Heap.get?_push_of_some _ e))
    refine upd_loop (A := A.in1) (P := fun b => ¬ X b ∧ b < s.heap.objs.size) (l := l) (n := n) (vs := vs) hh (Nat.ne_of_lt hlt) (Nat.ne_of_gt hDlt) (Nat.ne_of_gt (Nat.lt_trans hlt hDlt)) (fun b hb => ⟨Nat.ne_of_lt hb.2, Nat.ne_of_lt (Nat.lt_trans hb.2 hDlt)⟩)
      vs _ 0 _ [] [] res rfl (by simp) ⟨_, Heap.get?_push_size _ rfl, rfl, rfl⟩ (Heap.get?_push_of_some _ g2) ?_ ?_ .nil ?_ hd fun s' kvs' es' o1 o2 k1 k2 k3 k4 k5 => ?_
    · exact r.there.to (fun _ p => ⟨p.1, p.2.1⟩) fun a o _ e _ => keep a o e
    · exact (hnew.keep hk₁).push _
    · rw [r.length]; simpa using hl
    · subst k5
      refine ⟨rfl, h _ s' ⟨o1, .strict fun b o e => k1 b o (Nat.ne_of_lt (Heap.lt_size e)) (Nat.ne_of_lt (Nat.lt_trans (Heap.lt_size e) hDlt)) (keep b o e), fun q => by rw [o2]; exact q⟩ ?_⟩
      exact .dict hX.size (lowSize hn st) k2 k4 (k3.mono fun _ p => p.1)
  | _ => exact stuck_ne hd
end
end Mine

-- M12
namespace Mine
open PySem PySem.Calls PyProof.Rows

noncomputable def itOk (T : String) : Bool := !(["enumerate", "zip", "dict_itemiterator", "dict_reverseitemiterator", "odict_iterator", "itertools.zip_longest", "itertools.pairwise"].contains T)
section
variable (prog : Program) (w : World)
noncomputable def ItAt (A : Around) (X : Addr → Prop) (s₂ : Shared) (ds : List PyData) (I : Addr) : Prop :=
  ∃ (fp : List Addr) (P : Nat → Value → Prop) (St : Nat → Heap → Prop), Walks prog w A I fp [I] ds.length P St ∧ St 0 s₂.heap ∧
    (∀ b ∈ fp, b = I ∨ (¬ X b ∧ ∃ o, s₂.heap.get? b = some o ∧ DtC o.cls)) ∧ (∃ o, s₂.heap.get? I = some o ∧ (o.cls ≠ .type "frame" ∧ o.cls ≠ .type "cell" ∧ ¬ DtC o.cls) ∧ ∃ vs, o.data = .fields vs) ∧ ¬ X I ∧ (∀ i h, St i h → ∃ o, h.get? I = some o ∧ o.cls ≠ .type "frame" ∧ o.cls ≠ .type "cell" ∧ ¬ DtC o.cls ∧ ∃ T, o.cls = .type T ∧ itOk T = true) ∧
    ∀ h', (∀ a o, ¬ X a → s₂.heap.get? a = some o → DtC o.cls → h'.get? a = some o) → ∀ i v, P i v → ∀ d, ds[i]? = some d → Rp prog w h' (fun a => ¬ X a) v d
noncomputable def IOk (hb : Heap) (cO : Addr) (A : Around) (X : Addr → Prop) (s : Shared) (m : Sem Value) (r : R (List PyData)) : Prop :=
  r ≠ .stuck → ∀ (K : Value → Shared → Prop) (E : Value → Shared → Prop),
    (∀ I s₂ ds, r = .ok ds → Nx hb s s₂ → ds.length ≤ LIM → s.heap.get? I = none → ItAt prog w A X s₂ ds I → K (.ref I) s₂) →
    (∀ e s' x, r = .exc x → Flown hb s s' e (exCls cO x) → E (.ref e) s') → wpAny (model prog w) A m (fun xv s₁ => wpAny (model prog w) A (pyIter xv) K E s₁) E s
end

section
variable {prog : Program} {w : World} {hb : Heap} {cO : Addr} {A : Around} {Γ : Sc} {env : Env} {ρ : Rho} {c : Option PyData} {X O : Addr → Prop} {s : Shared} {T : Tb} {F : FT} {n : Nat}

theorem ne_iter {o : Obj} {T : String} (h : o.cls = .type T) (h1 : T ≠ "frame") (h2 : T ≠ "cell") (h3 : T ≠ "list") (h4 : T ≠ "tuple") (h5 : T ≠ "dict") : o.cls ≠ .type "frame" ∧ o.cls ≠ .type "cell" ∧ ¬ DtC o.cls := by
  rw [h]
  refine ⟨fun e => h1 (Value.type.inj e), fun e => h2 (Value.type.inj e), ?_⟩
  rintro (e | e | e)
  · exact h3 (Value.type.inj e)
  · exact h4 (Value.type.inj e)
  · exact h5 (Value.type.inj e)

theorem ne_iter' {o : Obj} {T : String} (h : o.cls = .type T) (h1 : T ≠ "frame") (h2 : T ≠ "cell") (h3 : T ≠ "list") (h4 : T ≠ "tuple") (h5 : T ≠ "dict") (h6 : itOk T = true) : o.cls ≠ .type "frame" ∧ o.cls ≠ .type "cell" ∧ ¬ DtC o.cls ∧ ∃ T, o.cls = .type T ∧ itOk T = true :=
  ⟨(ne_iter h h1 h2 h3 h4 h5).1, (ne_iter h h1 h2 h3 h4 h5).2.1, (ne_iter h h1 h2 h3 h4 h5).2.2, T, h, h6⟩

theorem it_list {Q : Value → Shared → Prop} {E : Value → Shared → Prop} {v : Value} {ds : List PyData} (hh : A.handled = none) (hX : XIn X s.heap) (r : Rp prog w s.heap (fun a => ¬ X a) v (.list ds))
    (h : ∀ I s₂, Nx hb s s₂ → ds.length ≤ LIM → s.heap.get? I = none → ItAt prog w A X s₂ ds I → Q (.ref I) s₂) : wpAny (model prog w) A (pyIter v) Q E s := by
  cases r with
  | @list l vs n _ p g hl rl =>
    have hne : l ≠ s.heap.objs.size := Nat.ne_of_lt (Heap.lt_size g)
    have W := Walks.list (prog := prog) (w := w) (A := A) hh s.heap.objs.size l hne vs.toArray
    have eW : vs.toArray.size = ds.length := by rw [List.size_toArray, rl.length]
    rw [eW] at W
    refine wpAny_pyIter_list (isList_of g) (h _ _ (.push' _ _) hl (get_size _) ⟨_, _, _, W, ⟨⟨_, Heap.get?_push_size _ rfl, rfl, rfl⟩, (isList_of g).push _⟩, ?_, ⟨_, Heap.get?_push_size _ rfl, ?_, _, rfl⟩, hX.size, (fun i h st => ?itc), ?_⟩)
    · intro b hb
      simp only [List.mem_cons, List.not_mem_nil, or_false] at hb
      rcases hb with rfl | rfl
      · exact .inl rfl
      · exact .inr ⟨p, _, Heap.get?_push_of_some _ g, .inl rfl⟩
    · exact ne_iter rfl (by decide) (by decide) (by decide) (by decide) (by decide)
    · obtain ⟨o, e, c, _⟩ := st.1
      exact ⟨o, e, ne_iter' c (by decide) (by decide) (by decide) (by decide) (by decide) (by decide)⟩
    · intro h' hk i v hv d hd
      obtain ⟨v', hv', rv⟩ := rl.get hd
      have : v' = v := by
        have hv2 : vs[i]? = some v := by simpa using hv
        rw [hv'] at hv2; exact Option.some.inj hv2
      subst this
      exact rv.to (fun _ p => p) fun a o q e z => hk a o q (Heap.get?_push_of_some _ e) z
theorem it_tuple {Q : Value → Shared → Prop} {E : Value → Shared → Prop} {v : Value} {ds : List PyData} (hh : A.handled = none) (hX : XIn X s.heap) (r : Rp prog w s.heap (fun a => ¬ X a) v (.tuple ds))
    (h : ∀ I s₂, Nx hb s s₂ → ds.length ≤ LIM → s.heap.get? I = none → ItAt prog w A X s₂ ds I → Q (.ref I) s₂) : wpAny (model prog w) A (pyIter v) Q E s := by
  cases r with
  | @tuple l vs n _ p g hl rl =>
    have hne : l ≠ s.heap.objs.size := Nat.ne_of_lt (Heap.lt_size g)
    have gt : s.heap.IsTuple l vs.toArray := ⟨_, g, rfl, n, rfl⟩
    have W := Walks.tuple (prog := prog) (w := w) (A := A) hh s.heap.objs.size l hne vs.toArray
    have eW : vs.toArray.size = ds.length := by rw [List.size_toArray, rl.length]
    rw [eW] at W
    refine wpAny_pyIter_tuple gt (h _ _ (.push' _ _) hl (get_size _) ⟨_, _, _, W, ⟨⟨_, Heap.get?_push_size _ rfl, rfl, rfl⟩, gt.at fun o e => Heap.get?_push_of_some _ e⟩, ?_, ⟨_, Heap.get?_push_size _ rfl, ?_, _, rfl⟩, hX.size, (fun i h st => ?itc), ?_⟩)
    · intro b hb
      simp only [List.mem_cons, List.not_mem_nil, or_false] at hb
      rcases hb with rfl | rfl
      · exact .inl rfl
      · exact .inr ⟨p, _, Heap.get?_push_of_some _ g, .inr (.inl rfl)⟩
    · exact ne_iter rfl (by decide) (by decide) (by decide) (by decide) (by decide)
    · obtain ⟨o, e, c, _⟩ := st.1
      exact ⟨o, e, ne_iter' c (by decide) (by decide) (by decide) (by decide) (by decide) (by decide)⟩
    · intro h' hk i v hv d hd
      obtain ⟨v', hv', rv⟩ := rl.get hd
      have : v' = v := by
        have hv2 : vs[i]? = some v := by simpa using hv
        rw [hv'] at hv2; exact Option.some.inj hv2
      subst this
      exact rv.to (fun _ p => p) fun a o q e z => hk a o q (Heap.get?_push_of_some _ e) z

theorem zipD_keys : ∀ (ks : List Int) (ds : List PyData), ks.length = ds.length → (zipD ks ds).map (·.1) = ks.map .int
  | [], [], _ => rfl
  | k :: ks, d :: ds, h => by
    simp only [zipD, List.map_cons]
    rw [zipD_keys ks ds (by simpa using h)]
theorem it_dict {Q : Value → Shared → Prop} {E : Value → Shared → Prop} {v : Value} {kv : List (PyData × PyData)} (hh : A.handled = none) (hX : XIn X s.heap) (r : Rp prog w s.heap (fun a => ¬ X a) v (.dict kv))
    (h : ∀ I s₂, Nx hb s s₂ → (kv.map (·.1)).length ≤ LIM → s.heap.get? I = none → ItAt prog w A X s₂ (kv.map (·.1)) I → Q (.ref I) s₂) : wpAny (model prog w) A (pyIter v) Q E s := by
  cases r with
  | @dict l kvs ds p lo g hl rl =>
    obtain ⟨ep, g'⟩ := g.dictAt
    have e1 := rl.length
    rw [List.length_map] at e1
    have e2 := zipD_keys (kvs.map (·.1)) ds (by simpa using e1)
    have hne : l ≠ s.heap.objs.size := by obtain ⟨o, _, _, ho, _⟩ := g; exact Nat.ne_of_lt (Heap.lt_size ho)
    have W := Walks.dictKeys (prog := prog) (w := w) (knd := intKind prog w) (A := A) hh s.heap.objs.size l hne kvs ep
    rw [e2] at h
    have e3 : ((kvs.map (·.1)).map PyData.int).length = kvs.length := by simp
    rw [← e3] at W
    refine wpAny_pyIter_dict (knd := intKind prog w) lo g' (h _ _ (.push' _ _) (by rw [e3, e1]; exact hl) (get_size _) ⟨_, _, _, W, ⟨?_, g'.push _⟩, ?_, ⟨_, Heap.get?_push_size _ rfl, ?_, _, rfl⟩, hX.size, (fun i h st => ?itc), ?_⟩)
    · rw [e3]; exact ⟨_, Heap.get?_push_size _ rfl, rfl, rfl⟩
    · intro b hb
      simp only [List.mem_cons, List.not_mem_nil, or_false] at hb
      rcases hb with rfl | rfl
      · exact .inl rfl
      · obtain ⟨o, _, _, ho, he, _⟩ := g
        exact .inr ⟨p, _, Heap.get?_push_of_some _ ho, .inr (.inr he.1)⟩
    · exact ne_iter rfl (by decide) (by decide) (by decide) (by decide) (by decide)
    · obtain ⟨o, e, c, _⟩ := st.1
      exact ⟨o, e, ne_iter' c (by decide) (by decide) (by decide) (by decide) (by decide) (by decide)⟩
    · intro h' hk i v hv d hd
      obtain ⟨k, x, hx, hv⟩ := hv
      obtain ⟨t, rfl⟩ := Value.isInt_shape hv
      simp only [List.getElem?_map, hx, Option.map_some, Option.some.injEq] at hd
      subst hd
      exact .int k t
theorem range_small {n : Int} (hn : n ≤ 1048576) (hlo : -1048576 ≤ n) : Builtin.Range.small 0 n 1 = true ∧ Builtin.Range.rangeSize 0 n 1 = (n.toNat : Int) := by
  have e : Builtin.Range.rangeSize 0 n 1 = (n.toNat : Int) := by
    unfold Builtin.Range.rangeSize
    have h1 : (1 : Int) > 0 := by omega
    simp only [h1, if_true, Int.ediv_one]
    split <;> omega
  refine ⟨?_, e⟩
  unfold Builtin.Range.small
  rw [e]
  simp only [Builtin.Range.rangeFitsLong, Bool.and_eq_true, Bool.or_eq_true, decide_eq_true_eq, beq_iff_eq]
  refine ⟨⟨⟨⟨⟨by omega, by omega⟩, ⟨by omega, by omega⟩⟩, ⟨by omega, by omega⟩⟩, ⟨by omega, by omega⟩⟩, .inr ?_⟩
  rw [if_pos (by omega)]
  simp only [Bool.and_eq_true, decide_eq_true_eq]
  omega
theorem it_range {Q : Value → Shared → Prop} {E : Value → Shared → Prop} {n : Int} {t : Tok} (hh : A.handled = none) (hX : XIn X s.heap) (hn : n ≤ 1048576) (hlo : -1048576 ≤ n)
    (h : ∀ I s₂, Nx hb s s₂ → ((List.range n.toNat).map fun i => PyData.int (i : Nat)).length ≤ LIM → s.heap.get? I = none → ItAt prog w A X s₂ ((List.range n.toNat).map fun i => .int (i : Nat)) I → Q (.ref I) s₂) :
    wpAny (model prog w) A (call (.type "range") [.int n t]) (fun xv s₁ => wpAny (model prog w) A (pyIter xv) Q E s₁) E s := by
  refine call_range_1 ?_
  have hr : IsRange (s.heap.push { cls := .type "range", data := .fields #[.int 0 s.toks, .int n t, .int 1 (s.toks + 1)] }) s.heap.objs.size 0 n 1 s.toks t (s.toks + 1) := IsRange.new ..
  obtain ⟨h1, h2⟩ := range_small hn hlo
  refine wpAny_pyIter_range hr h1 ?_
  have k1 : Kp hb s.heap (s.heap.push { cls := .type "range", data := .fields #[.int 0 s.toks, .int n t, .int 1 (s.toks + 1)] }) := .push _ _
  have W := Walks.range (prog := prog) (w := w) (A := A) hh (s.heap.push { cls := .type "range", data := .fields #[.int 0 s.toks, .int n t, .int 1 (s.toks + 1)] }).objs.size 0 1 n.toNat
  have e3 : ((List.range n.toNat).map fun i => PyData.int (i : Nat)).length = n.toNat := by simp
  rw [← e3] at W
  refine h _ _ ⟨rfl, k1.trans (.push _ _), id⟩ (by rw [e3, LIM_eq]; omega) ?_ ⟨_, _, _, W, ?_, ?_, ⟨_, Heap.get?_push_size _ rfl, ?_, _, rfl⟩, (hX.kp k1).size, (fun i h st => ?itc), ?_⟩
  · exact k1.none (get_size _)
  · rw [h2, e3]
    have z := Heap.get?_push_size (s.heap.push { cls := .type "range", data := .fields #[.int 0 s.toks, .int n t, .int 1 (s.toks + 1)] }) (o := { cls := .type "range_iterator", data := .fields #[rawInt 0, rawInt (n.toNat : Int), rawInt 1] }) rfl
    simpa using z
  · intro b hb
    exact .inl (by simpa using hb)
  · exact ne_iter rfl (by decide) (by decide) (by decide) (by decide) (by decide)
  · exact ⟨_, st, ne_iter' rfl (by decide) (by decide) (by decide) (by decide) (by decide) (by decide)⟩
  · intro h' hk i v hv d hd
    obtain ⟨t', rfl⟩ := hv
    simp only [List.getElem?_map, Option.map_eq_some_iff] at hd
    obtain ⟨j, hj, rfl⟩ := hd
    have : j = i := by
      obtain ⟨h3, h4⟩ := List.getElem?_eq_some_iff.mp hj
      simpa using h4.symm
    subst this
    have e : (0 : Int) + (j : Int) * 1 = (j : Int) := by omega
    rw [e]
    exact .int _ _
end
end Mine

-- M13
namespace Mine
open PySem PySem.Calls PyProof.Rows

theorem lookup_relabel {env : Env} {k : NameKind} (hk : k ≠ .free) : ∀ {names : List (Str × NameKind)} {x : Str}, names.lookup x = some k →
    (names.map fun (n, k) => if (k == NameKind.free && env.scope.kind == .function && env.kindOf n == some .cell) then (n, NameKind.cell) else (n, k)).lookup x = some k
  | [], _, h => by simp at h
  | (n, k') :: r, x, h => by
    have ih := @lookup_relabel env k hk r x
    show List.lookup x ((if (k' == NameKind.free && env.scope.kind == .function && env.kindOf n == some .cell) = true then (n, NameKind.cell) else (n, k')) :: _) = _
    cases hx : x == n with
    | true =>
      simp only [List.lookup_cons, hx] at h
      cases h
      have : (k == NameKind.free) = false := by simpa using hk
      simp [List.lookup_cons, hx, this]
    | false =>
      simp only [List.lookup_cons, hx] at h
      split <;> (simp only [List.lookup_cons, hx]; exact ih h)
theorem lookup_relabel_free {env : Env} (he : env.scope.kind = .function) : ∀ {names : List (Str × NameKind)} {x : Str}, names.lookup x = some .free → env.kindOf x = some .cell →
    (names.map fun (n, k) => if (k == NameKind.free && env.scope.kind == .function && env.kindOf n == some .cell) then (n, NameKind.cell) else (n, k)).lookup x = some .cell
  | [], _, h, _ => by simp at h
  | (n, k') :: r, x, h, hc => by
    have ih := @lookup_relabel_free env he r x
    show List.lookup x ((if (k' == NameKind.free && env.scope.kind == .function && env.kindOf n == some .cell) = true then (n, NameKind.cell) else (n, k')) :: _) = _
    cases hx : x == n with
    | true =>
      simp only [List.lookup_cons, hx] at h
      cases h
      have e : x = n := by simpa using hx
      subst e
      simp [hc, he]
    | false =>
      simp only [List.lookup_cons, hx] at h
      split <;> (simp only [List.lookup_cons, hx]; exact ih h hc)

theorem closure_go (env : Env) : ∀ (names : List (Str × NameKind)) (acc : List (Str × Addr)), (∀ p ∈ names, p.2 = .free → ∃ c, env.cells.lookup p.1 = some c) → (∀ x c, acc.lookup x = some c → env.cells.lookup x = some c) →
    ∃ cl, (forIn names acc fun (x : Str × NameKind) (cs : List (Str × Addr)) => if (x.2 == NameKind.free) = true then (do let a ← cellOf env x.1; pure (ForInStep.yield ((x.1, a) :: cs))) else pure (ForInStep.yield cs) : Sem (List (Str × Addr))) = pure cl ∧
      (∀ x c, cl.lookup x = some c → env.cells.lookup x = some c) ∧ (∀ x, (acc.lookup x).isSome = true ∨ (x, NameKind.free) ∈ names → (cl.lookup x).isSome = true)
  | [], acc, _, h2 => ⟨acc, rfl, h2, fun x h => h.elim id fun q => nomatch q⟩
  | (n, k) :: r, acc, h1, h2 => by
    rw [List.forIn_cons]
    by_cases hk : k = .free
    · subst hk
      obtain ⟨c, hc⟩ := h1 (n, .free) (.head _) rfl
      have e : cellOf env n = pure c := by unfold cellOf; rw [hc]
      obtain ⟨cl, z1, z2, z3⟩ := closure_go env r ((n, c) :: acc) (fun p hp => h1 p (.tail _ hp)) (fun x c' h => by
        rw [List.lookup_cons] at h
        cases hx : x == n with
        | true =>
          rw [hx] at h; cases h
          rw [show x = n by simpa using hx]; exact hc
        | false => rw [hx] at h; exact h2 x c' h)
      refine ⟨cl, ?_, z2, fun x h => z3 x ?_⟩
      · simp only [beq_self_eq_true, if_true, e, pure_bind]
        exact z1
      · rcases h with h | h
        · left
          rw [List.lookup_cons]
          cases x == n <;> simp [h]
        · rcases List.mem_cons.mp h with q | q
          · left
            rw [(Prod.mk.inj q).1, List.lookup_cons]; simp
          · exact .inr q
    · obtain ⟨cl, z1, z2, z3⟩ := closure_go env r acc (fun p hp => h1 p (.tail _ hp)) h2
      refine ⟨cl, ?_, z2, fun x h => z3 x ?_⟩
      · have : (k == NameKind.free) = false := by simpa using hk
        simp only [this, Bool.false_eq_true, if_false, pure_bind]
        exact z1
      · rcases h with h | h
        · exact .inl h
        · rcases List.mem_cons.mp h with q | q
          · exact absurd (Prod.mk.inj q).2.symm hk
          · exact .inr q
theorem closure_ok {sc : Scope} {env : Env} (h : ∀ p ∈ sc.names, p.2 = .free → ∃ c, env.cells.lookup p.1 = some c) :
    ∃ cl, closureFor sc env = pure cl ∧ (∀ x c, cl.lookup x = some c → env.cells.lookup x = some c) ∧ (∀ x, (x, NameKind.free) ∈ sc.names → (cl.lookup x).isSome = true) := by
  obtain ⟨cl, z1, z2, z3⟩ := closure_go env sc.names [] h (fun _ _ q => nomatch q)
  refine ⟨cl, ?_, z2, fun x hx => z3 x (.inr hx)⟩
  unfold closureFor
  exact congrArg (fun (m : Sem (List (Str × Addr))) => m >>= fun s => pure s) z1

theorem comp_SE {prog : Program} {w : World} {hb : Heap} {A : Around} {Γ : Sc} {env : Env} {ρ : Rho} {c : Option PyData} {X O : Addr → Prop} {s s' : Shared} {sc : Scope} {x : Str} {cl : List (Str × Addr)} {C D : Addr}
    (S : SE prog w hb A Γ env ρ c X O s) (hsc : compSc Γ sc x = true) (hcl : ∀ x c, cl.lookup x = some c → env.cells.lookup x = some c) (hcl' : ∀ x, (x, NameKind.free) ∈ sc.names → (cl.lookup x).isSome = true)
    (n : Nx hb s s') (hC : s.heap.get? C = none) (hD : s.heap.get? D = none) (hC' : s'.heap.get? C ≠ none) (hD' : s'.heap.get? D ≠ none) :
    SE prog w hb A (Γ.into sc x) (compEnvC sc cl C env) ρ none (fun a => X a ∨ a = C ∨ a = D) O s' := by
  simp only [compSc, Bool.and_eq_true, beq_iff_eq, Option.isNone_iff_eq_none] at hsc
  obtain ⟨⟨⟨⟨⟨hcs, hk⟩, hx⟩, hg⟩, hco⟩, hall⟩ := hsc
  have hfs := S.fs hcs
  have old : ∀ a, s.heap.get? a ≠ none → a ≠ C ∧ a ≠ D := fun a ha => ⟨fun q => ha (q ▸ hC), fun q => ha (q ▸ hD)⟩
  refine ⟨hk, S.gl, S.bl, ?_, (by intro h; cases h), n.kp.stays S.stays, ?_, n.gens S.bare, ?_, ?_, (fun a h => .inl (S.ox a h)), (by intro h; cases h), ?_, (by intro _ _ _ h; cases h)⟩
  · intro y hy
    exact lookup_relabel (by decide) hy
  · exact S.stk.kp n.kp
  · rintro a (h | rfl | rfl)
    · exact n.kp.some (S.xin a h)
    · exact hC'
    · exact hD'
  · rintro a (h | rfl | rfl)
    · exact S.xnew a h
    · cases q : hb.get? a with
      | none => rfl
      | some o => rw [S.stays a o q] at hC; cases hC
    · cases q : hb.get? a with
      | none => rfl
      | some o => rw [S.stays a o q] at hD; cases hD
  · intro i y va h1 h2 h3
    simp only [Sc.isVar, Sc.into, Bool.and_eq_true, beq_iff_eq] at h1
    obtain ⟨⟨hv, hdb⟩, ⟨hfree, hcell⟩, _⟩ := h1
    have h1' : Γ.isVar i y = true := by
      simp only [Sc.isVar, hcs, Bool.and_eq_true, beq_iff_eq, Bool.or_eq_true]
      exact ⟨⟨hv, hdb⟩, .inr hcell⟩
    obtain ⟨v, q1, q2⟩ := S.vars i y va h1' h2 h3
    have hkc : env.kindOf y = some .cell := by unfold Env.kindOf; rw [hfs]; exact hcell
    rcases q1 with ⟨q1, _⟩ | ⟨_, cc, q3, q4⟩
    · rw [hkc] at q1; cases q1
    · have hmem : (y, NameKind.free) ∈ sc.names := mem_of_lookup hfree
      obtain ⟨c', hc'⟩ := Option.isSome_iff_exists.mp (hcl' y hmem)
      have hcc := hcl y c' hc'
      rw [q3] at hcc
      cases hcc
      refine ⟨v, .inr ⟨lookup_relabel_free S.kind hfree hkc, cc, hc', n.kp.cell q4⟩, ?_⟩
      have hP : ∀ a, (¬ X a ∧ a < s.heap.objs.size ∧ s.heap.get? a ≠ none) → ¬ (X a ∨ a = C ∨ a = D) := fun a p q => by
        rcases q with q | q | q
        · exact p.1 q
        · exact (old a p.2.2).1 q
        · exact (old a p.2.2).2 q
      cases va with
      | un => exact absurd rfl h3
      | v d => exact Rp.to hP (fun a o _ e z => n.kp.obj a o e z.ne) (Rp.there q2)
      | own ds =>
        obtain ⟨b, vs, m, rfl, hx, g, l, r⟩ := q2
        exact ⟨b, vs, m, rfl, hx, n.kp.obj _ _ g ne_list, l, r.there.to hP fun a o _ e z => n.kp.obj a o e z.ne⟩
      | i3 k =>
        obtain ⟨t, vs, m, tok, rfl, g, r⟩ := q2
        exact ⟨t, vs, m, tok, rfl, n.kp.obj _ _ g ne_tuple, r⟩
end Mine

-- M14
namespace Mine
open PySem PySem.Calls PyProof.Rows

structure KpB (N : Addr → Prop) (hb h h' : Heap) : Prop where
  low : ∀ a o, ¬ N a → hb.get? a = some o → h.get? a = some o → h'.get? a = some o
  ex : ∀ a o, ¬ N a → h.get? a = some o → ¬ Fr o → h'.get? a = some o
  fr : ∀ a o, ¬ N a → h.get? a = some o → ∃ sl, h'.get? a = some { o with slots := sl }
section
variable {N : Addr → Prop} {hb h h₁ h₂ h₃ : Heap}
theorem KpB.obj (k : KpB N hb h₁ h₂) (a : Addr) (o : Obj) (n : ¬ N a) (e : h₁.get? a = some o) (c : o.cls ≠ .type "frame") : h₂.get? a = some o := k.ex a o n e fun q => c q.1
theorem KpB.refl : KpB N hb h h := ⟨fun _ _ _ _ e => e, fun _ _ _ e _ => e, fun _ o _ e => ⟨o.slots, e⟩⟩
theorem KpB.trans (x : KpB N hb h₁ h₂) (y : KpB N hb h₂ h₃) : KpB N hb h₁ h₃ :=
  ⟨fun a o n b e => y.low a o n b (x.low a o n b e), fun a o n e c => y.ex a o n (x.ex a o n e c) c, fun a o n e => by
    obtain ⟨s1, h1⟩ := x.fr a o n e
    obtain ⟨s2, h2⟩ := y.fr a _ n h1
    exact ⟨s2, h2⟩⟩
theorem Kp.b (x : Kp hb h₁ h₂) : KpB N hb h₁ h₂ := ⟨fun a o _ b e => x.low a o b e, fun a o _ e c => x.ex a o e c, fun a o _ e => x.fr a o e⟩
theorem KpB.strict (hk : ∀ b o, ¬ N b → h₁.get? b = some o → h₂.get? b = some o) : KpB N hb h₁ h₂ :=
  ⟨fun a o n _ e => hk a o n e, fun a o n e _ => hk a o n e, fun a o n e => ⟨o.slots, hk a o n e⟩⟩
theorem KpB.of (x : KpB N hb h₂ h₃) (k : Kp hb h₁ h₂) (hn : ∀ a, N a → h₁.get? a = none) : Kp hb h₁ h₃ := by
  have nn : ∀ a o, h₁.get? a = some o → ¬ N a := fun a o e q => by rw [hn a q] at e; cases e
  refine ⟨fun a o b e => x.low a o (nn a o e) b (k.low a o b e), fun a o e c => x.ex a o (nn a o e) (k.ex a o e c) c, fun a o e => ?_⟩
  obtain ⟨s1, z1⟩ := k.fr a o e
  obtain ⟨s2, z2⟩ := x.fr a _ (nn a o e) z1
  exact ⟨s2, z2⟩
end

theorem mapR_filter (f : PyData → R PyData) : ∀ xs, mapR f xs = filterR (fun _ => .ok (.bool true)) f xs
  | [] => rfl
  | x :: r => by simp only [mapR, filterR, mapR_filter f r]

theorem filterR_cons {p f : PyData → R PyData} {x : PyData} {r es : List PyData} (h : filterR p f (x :: r) = .ok es) :
    (p x = .ok (.bool true) ∧ ∃ y ys, f x = .ok y ∧ filterR p f r = .ok ys ∧ y :: ys = es) ∨ (p x = .ok (.bool false) ∧ filterR p f r = .ok es) := by
  simp only [filterR] at h
  split at h
  · rename_i hp
    split at h
    · rename_i y hf
      split at h
      · rename_i ys hys
        exact .inl ⟨hp, y, ys, hf, hys, R.ok.inj h⟩
      · cases h
    · cases h
  · rename_i hp
    exact .inr ⟨hp, h⟩
  · cases h
theorem filterR_tt {p f : PyData → R PyData} {x y : PyData} {r es : List PyData} (h1 : p x = .ok (.bool true)) (h2 : f x = .ok y) (h3 : filterR p f r = .ok es) : filterR p f (x :: r) = .ok (y :: es) := by simp only [filterR, h1, h2, h3]
theorem filterR_ff {p f : PyData → R PyData} {x : PyData} {r es : List PyData} (h1 : p x = .ok (.bool false)) (h3 : filterR p f r = .ok es) : filterR p f (x :: r) = .ok es := by simp only [filterR, h1, h3]
theorem filterR_snoc {p f : PyData → R PyData} {d : PyData} : ∀ {xs : List PyData} {es : List PyData}, filterR p f xs = .ok es →
    (∀ y, p d = .ok (.bool true) → f d = .ok y → filterR p f (xs ++ [d]) = .ok (es ++ [y])) ∧ (p d = .ok (.bool false) → filterR p f (xs ++ [d]) = .ok es)
  | [], es, h => by
    cases h
    exact ⟨fun y h1 h2 => filterR_tt h1 h2 rfl, fun h1 => filterR_ff h1 rfl⟩
  | x :: r, es, h => by
    rcases filterR_cons h with ⟨hp, y, ys, hf, hy, rfl⟩ | ⟨hp, hy⟩
    · obtain ⟨a, b⟩ := filterR_snoc (d := d) hy
      exact ⟨fun y h1 h2 => filterR_tt hp hf (a y h1 h2), fun h1 => filterR_tt hp hf (b h1)⟩
    · obtain ⟨a, b⟩ := filterR_snoc (d := d) hy
      exact ⟨fun y h1 h2 => filterR_ff hp (a y h1 h2), fun h1 => filterR_ff hp (b h1)⟩
theorem filterR_at {p f : PyData → R PyData} : ∀ {xs : List PyData} {es : List PyData} {j : Nat} {d : PyData}, filterR p f xs = .ok es → xs[j]? = some d → ∃ b, p d = .ok (.bool b) ∧ (b = true → ∃ y, f d = .ok y)
  | [], es, j, d, _, h => nomatch h
  | x :: r, es, 0, d, h, hd => by
    cases hd
    rcases filterR_cons h with ⟨hp, y, ys, hf, hy, rfl⟩ | ⟨hp, hy⟩
    · exact ⟨true, hp, fun _ => ⟨y, hf⟩⟩
    · exact ⟨false, hp, nofun⟩
  | x :: r, es, j + 1, d, h, hd => by
    rcases filterR_cons h with ⟨hp, y, ys, hf, hy, rfl⟩ | ⟨hp, hy⟩
    · exact filterR_at (j := j) hy hd
    · exact filterR_at (j := j) hy hd

theorem set_folded {it : Expr} {env : Env} (h : isSetE it = false) (x : Value) : foldedSetIterable it env x = pure x := by
  unfold foldedSetIterable
  split
  · simp [isSetE] at h
  · rfl

section
variable {prog : Program} {w : World} {hb : Heap} {cO : Addr} {A : Around} {Γ : Sc} {env : Env} {ρ : Rho} {c : Option PyData} {X O : Addr → Prop} {s : Shared}

theorem SE.tell {sc : Scope} {cl : List (Str × Addr)} {C : Addr} {x : Str} {X' O : Addr → Prop} {d : PyData} {v : Value} {m : Str → Option Value} (S : SE prog w hb A (Γ.into sc x) (compEnvC sc cl C env) ρ none X' O s) (hx : sc.names.lookup x = some .local)
    (hm : s.heap.Ns C m) (hv : m x = some v) (r : Rp prog w s.heap (fun a => ¬ X' a) v d) : SE prog w hb A (Γ.into sc x) (compEnvC sc cl C env) ρ (some d) X' O s :=
  { S with
    cvar := fun y d' h1 h2 => by
      cases h2
      simp only [Sc.isCv, Sc.into, Bool.and_eq_true, beq_iff_eq] at h1
      obtain ⟨⟨_, rfl⟩, _⟩ := h1
      exact ⟨v, .inl ⟨lookup_relabel_local hx, m, hm, hv⟩, r⟩ }

theorem comp_vars_cell {sc : Scope} {cl : List (Str × Addr)} {C : Addr} {x y : Str} {i : Nat} (hs : env.scope = Γ.fs) (hk : env.scope.kind = .function) (h : (Γ.into sc x).isVar i y = true) : (compEnvC sc cl C env).kindOf y = some .cell := by
  simp only [Sc.isVar, Sc.into, Bool.and_eq_true, beq_iff_eq] at h
  obtain ⟨_, ⟨h1, h2⟩, _⟩ := h
  exact lookup_relabel_free hk h1 (by unfold Env.kindOf; rw [hs]; exact h2)
end
end Mine

-- M15
namespace Mine
open PySem PySem.Calls PyProof.Rows

section
variable {prog : Program} {w : World} {hb : Heap} {cO : Addr} {A : Around} {Γ : Sc} {env : Env} {ρ : Rho} {c : Option PyData} {X O : Addr → Prop} {s : Shared}

abbrev X3 (X : Addr → Prop) (C D : Addr) : Addr → Prop := fun a => X a ∨ a = C ∨ a = D
abbrev N3 (I C D : Addr) : Addr → Prop := fun a => a = I ∨ a = C ∨ a = D

noncomputable def FOk (prog : Program) (w : World) (hb : Heap) (A : Around) (ifs : List Expr) (env : Env) (s : Shared) (r : R PyData) : Prop :=
  ∀ b, r = .ok (.bool b) → ∀ (Q : Bool → Shared → Prop) (E : Value → Shared → Prop), (∀ s', Nx hb s s' → Q b s') →
    wpAny (model prog w) A (forIn ifs true fun c r => if r = true then do let ok ← isTrue c env (eval c env); pure (ForInStep.yield ok) else pure (ForInStep.yield r)) Q E s
theorem FOk.nil {env : Env} : FOk prog w hb A [] env s (.ok (.bool true)) := by
  intro b h Q E hQ
  cases h
  rw [List.forIn_nil]
  exact wpAny_pure (hQ s (.refl _))
theorem FOk.one {cnd : Expr} {env : Env} {r : R PyData} (h : TOk prog w hb cO A s (isTrue cnd env (eval cnd env)) r) : FOk prog w hb A [cnd] env s r := by
  intro b hb' Q E hQ
  rw [List.forIn_cons]
  refine wpAny_bind ?_
  show wpAny _ _ (isTrue cnd env (eval cnd env) >>= fun ok => pure (ForInStep.yield ok)) _ _ _
  refine wpAny_bind (h (fun d e => by rw [hb'] at e; cases e; exact ⟨_, rfl⟩) (by rw [hb']; intro h; cases h) _ _ (fun b' s' e n => ?_) fun e s' x ex f => by rw [hb'] at ex; cases ex)
  rw [hb'] at e
  cases e
  refine wpAny_pure ?_
  show wpAny _ _ (forIn [] b _) _ _ _
  rw [List.forIn_nil]
  exact wpAny_pure (hQ s' n)

theorem Stk.kpb {N : Addr → Prop} {h h' : Heap} (x : Stk hb A h) (hk : KpB N hb h h') (hfr : ∀ a, N a → a ∉ frs A) : Stk hb A h' := by
  obtain ⟨⟨l, a, b⟩, c⟩ := x
  have cc : ∀ b ∈ frs A, ∃ o, h'.get? b = some o ∧ Fr o := fun b hb => by
    obtain ⟨o, e, f⟩ := c b hb
    obtain ⟨sl, z⟩ := hk.fr b o (fun q => hfr b q hb) e
    exact ⟨_, z, f⟩
  refine ⟨⟨l, a, ?_⟩, cc⟩
  have hl : frs A = l.filterMap (·.frame) := by unfold frs; rw [a]
  rw [hl] at cc
  clear hl a c hfr hk
  induction l with
  | nil => trivial
  | cons env rest ih =>
    obtain ⟨q1, ⟨L, o, q2, q3, q4, q5⟩, q6⟩ := b
    rw [List.filterMap_cons, q2] at cc
    obtain ⟨o', e', f'⟩ := cc L (.head _)
    exact ⟨q1, ⟨L, o', q2, q3, e', f'.2⟩, ih q6 fun b hb => cc b (.tail _ hb)⟩

theorem SE.kpb {N : Addr → Prop} {s s' : Shared} (S : SE prog w hb A Γ env ρ none X O s) (hk : KpB N hb s.heap s'.heap)
    (hnew : ∀ a, N a → hb.get? a = none) (hO : ∀ a, N a → ¬ O a) (hd : ∀ a o, N a → s.heap.get? a = some o → ¬ X a → ¬ DtC o.cls) (ht : ∀ a vs n, N a → s.heap.get? a ≠ some { cls := .type "tuple", data := .seq vs n })
    (hx : ∀ a, N a → X a → s'.heap.get? a ≠ none) (hfr : ∀ a, N a → a ∉ frs A) (hg : AllBare s'.gens)
    (hvar : ∀ i x, Γ.isVar i x = true → ∀ v, ValOf env s.heap x v → ValOf env s'.heap x v) : SE prog w hb A Γ env ρ none X O s' where
  kind := S.kind
  gl := S.gl
  bl := S.bl
  kd := S.kd
  fs := S.fs
  stays := fun b o e => hk.low b o (fun q => by rw [hnew b q] at e; cases e) e (S.stays b o e)
  stk := S.stk.kpb hk hfr
  bare := hg
  xin := fun b hx' => by
    by_cases q : N b
    · exact hx b q hx'
    · have := S.xin b hx'
      cases z : s.heap.get? b with
      | none => exact absurd z this
      | some o =>
        obtain ⟨sl, z'⟩ := hk.fr b o q z
        rw [z']; simp
  xnew := S.xnew
  ox := S.ox
  cel := S.cel
  vars := fun i x va h1 h2 h3 => by
    obtain ⟨v, q1, q2⟩ := S.vars i x va h1 h2 h3
    refine ⟨v, hvar i x h1 v q1, ?_⟩
    have up : ∀ b o, ¬ X b → s.heap.get? b = some o → DtC o.cls → s'.heap.get? b = some o := fun b o hx e z => hk.obj b o (fun q => hd b o q e hx z) e z.ne
    cases va with
    | un => exact absurd rfl h3
    | v d => exact Rp.to (fun _ p => p) up q2
    | own ds =>
      obtain ⟨b, vs, n, rfl, hx, g, l, r⟩ := q2
      exact ⟨b, vs, n, rfl, hx, hk.obj b _ (fun q => hO b q hx) g ne_list, l, r.to (fun _ p => p) up⟩
    | i3 k =>
      obtain ⟨t, vs, n, tok, rfl, g, r⟩ := q2
      exact ⟨t, vs, n, tok, rfl, hk.obj t _ (fun q => ht t _ _ q g) g ne_tuple, r⟩
  cvar := fun _ _ _ h => by cases h

theorem ValOf.kpb {env : Env} {N : Addr → Prop} {h h' : Heap} {x : Str} {v : Value} (hk : KpB N hb h h') (hkd : env.kindOf x = some .cell) (hc : ∀ a o, N a → h.get? a = some o → ∀ v, o.data ≠ .cell v)
    (r : ValOf env h x v) : ValOf env h' x v := by
  rcases r with ⟨q, m, n, e⟩ | ⟨q, cc, e, n⟩
  · rw [hkd] at q; cases q
  · refine .inr ⟨q, cc, e, ?_⟩
    obtain ⟨o, ho, hd⟩ := n
    obtain ⟨sl, z⟩ := hk.fr cc o (fun q => hc cc o q ho _ hd) ho
    exact ⟨_, z, hd⟩

structure CInv (prog : Program) (w : World) (hb : Heap) (X : Addr → Prop) (I C D : Addr) (s₄ : Shared) (p f : PyData → R PyData) (ds : List PyData) (St : Nat → Heap → Prop) (j : Nat) (s' : Shared) : Prop where
  st : St j s'.heap
  jle : j ≤ ds.length
  kp : KpB (N3 I C D) hb s₄.heap s'.heap
  os : s'.os = s₄.os
  bare : AllBare s'.gens
  ns : ∃ m, s'.heap.Ns C m
  acc : ∃ es ws n, filterR p f (ds.take j) = .ok es ∧ s'.heap.get? D = some { cls := .type "list", data := .seq (List.toArray ws) n } ∧ RpL prog w s'.heap (fun a => ¬ X3 X C D a) ws es

theorem filterR_len {p f : PyData → R PyData} : ∀ {xs es : List PyData}, filterR p f xs = .ok es → es.length ≤ xs.length
  | [], es, h => by simp only [filterR] at h; cases h; simp
  | x :: r, es, h => by
    simp only [filterR] at h
    split at h
    · split at h
      · split at h
        · rename_i ys hys
          cases h
          have := filterR_len hys
          simp only [List.length_cons]; omega
        · cases h
      · cases h
    · have := filterR_len h
      simp only [List.length_cons]; omega
    · cases h

theorem ns_not_fields {h : Heap} {a : Addr} {m : Str → Option Value} (x : h.Ns a m) : ∃ o, h.get? a = some o ∧ ∀ vs, o.data ≠ .fields vs := by
  obtain ⟨o, es, ep, e, d, r⟩ := x
  exact ⟨o, e, fun vs q => by rw [d] at q; cases q⟩

theorem comp_loop {elt it : Expr} {x : Str} {px : Pos} {ifs : List Expr} {sc : Scope} {pos : Pos} {cl : List (Str × Addr)} {I C D : Addr} {s₂ s₄ : Shared} {p f : PyData → R PyData} {ds esAll : List PyData} {fp : List Addr} {P : Nat → Value → Prop} {St : Nat → Heap → Prop} {fr : Bool} {R' : Result → Shared → Prop}
    (hsc : compSc Γ sc x = true) (hfs : env.scope = Γ.fs) (hkf : env.scope.kind = .function) (W : Walks prog w A I fp [I] ds.length P St) (hfp : ∀ b ∈ fp, b = I ∨ (¬ X b ∧ ∃ o, s₂.heap.get? b = some o ∧ DtC o.cls)) (hXI : ¬ X I) (hStI : ∀ i h, St i h → ∃ o, h.get? I = some o ∧ o.cls ≠ .type "frame" ∧ o.cls ≠ .type "cell" ∧ ¬ DtC o.cls ∧ ∃ T, o.cls = .type T ∧ itOk T = true) (hOI : ¬ O I) (hOC : ¬ O C) (hOD : ¬ O D)
    (hitem : ∀ h', (∀ a o, ¬ X a → s₂.heap.get? a = some o → DtC o.cls → h'.get? a = some o) → ∀ i v, P i v → ∀ d, ds[i]? = some d → Rp prog w h' (fun a => ¬ X a) v d)
    (hI2 : ∃ o, s₂.heap.get? I = some o ∧ (o.cls ≠ .type "frame" ∧ o.cls ≠ .type "cell" ∧ ¬ DtC o.cls) ∧ ∃ vs, o.data = .fields vs) (hC2 : s₂.heap.get? C = none) (hD2 : s₂.heap.get? D = none) (hbI : hb.get? I = none) (hbC : hb.get? C = none) (hbD : hb.get? D = none) (hCD : C ≠ D) (hfrm : ∀ a, N3 I C D a → a ∉ frs A) (hlen : ds.length ≤ LIM) (hall : filterR p f ds = .ok esAll)
    (htest : ∀ s₃ d, SE prog w hb A (Γ.into sc x) (compEnvC sc cl C env) ρ (some d) (X3 X C D) O s₃ → FOk prog w hb A ifs (compEnvC sc cl C env) s₃ (p d))
    (helt : ∀ s₃ d, SE prog w hb A (Γ.into sc x) (compEnvC sc cl C env) ρ (some d) (X3 X C D) O s₃ → EOk prog w hb cO A (X3 X C D) fr s₃ (eval elt (compEnvC sc cl C env)) (f d))
    (k24 : Kp hb s₂.heap s₄.heap) (hse : SE prog w hb A (Γ.into sc x) (compEnvC sc cl C env) ρ none (X3 X C D) O s₄) (hD4 : s₄.heap.get? D = some { cls := .type "list", data := .seq #[] }) (hC4 : s₄.heap.Ns C (fun _ => none))
    (h0 : St 0 s₄.heap)
    (hR : ∀ s', KpB (N3 I C D) hb s₄.heap s'.heap → s'.os = s₄.os → AllBare s'.gens → (∃ m, s'.heap.Ns C m) → (∃ ws n, s'.heap.get? D = some { cls := .type "list", data := .seq (List.toArray ws) n } ∧ RpL prog w s'.heap (fun a => ¬ X3 X C D a) ws esAll) → R' (.ok .next) s') :
    codeAny (model prog w) A (.compLoop (.ListComp elt [⟨.Name x px, it, ifs, 0⟩] sc pos) 0 (.ref I) (.ref D) (compEnvC sc cl C env)) R' s₄ := by
  have hsc' := hsc
  simp only [compSc, Bool.and_eq_true, beq_iff_eq, Option.isNone_iff_eq_none] at hsc'
  obtain ⟨⟨⟨⟨⟨hcs, hk⟩, hx⟩, _⟩, _⟩, _⟩ := hsc'
  obtain ⟨oI, hoI, ⟨hI1, hI3, hI4⟩, hI5⟩ := hI2
  have hIC : I ≠ C := fun q => by rw [q, hC2] at hoI; cases hoI
  have hID : I ≠ D := fun q => by rw [q, hD2] at hoI; cases hoI
  have hoI4 : s₄.heap.get? I = some oI := k24.obj I oI hoI hI1
  -- the state of the frame in every later heap
  have seAt : ∀ s', KpB (N3 I C D) hb s₄.heap s'.heap → AllBare s'.gens → (∃ m, s'.heap.Ns C m) → (∃ ws n, s'.heap.get? D = some { cls := .type "list", data := .seq ws n }) → SE prog w hb A (Γ.into sc x) (compEnvC sc cl C env) ρ none (X3 X C D) O s' := by
    intro s' kk hg ⟨m, hm⟩ ⟨ws, n, hw⟩
    obtain ⟨oC, hoC, hoC'⟩ := ns_not_fields hm
    obtain ⟨oC4, hoC4, hoC4'⟩ := ns_not_fields hC4
    have hCcell : ∀ v, oC4.data ≠ .cell v := by
      obtain ⟨o, es, ep, e, d, r⟩ := hC4
      rw [e] at hoC4; cases hoC4
      intro v q; rw [d] at q; cases q
    refine hse.kpb kk ?_ ?_ ?_ ?_ ?_ hfrm hg ?_
    · rintro a (rfl | rfl | rfl) <;> assumption
    · rintro a (rfl | rfl | rfl) <;> assumption
    · rintro a o (rfl | rfl | rfl) e nx
      · rw [hoI4] at e; cases e; exact hI4
      · exact absurd (.inr (.inl rfl)) nx
      · exact absurd (.inr (.inr rfl)) nx
    · rintro a vs n (rfl | rfl | rfl) e
      · rw [hoI4] at e; cases e; exact hI4 (.inr (.inl rfl))
      · obtain ⟨o, es, ep, e', d, r⟩ := hC4
        rw [e'] at e; cases e; cases d
      · rw [hD4] at e
        exact absurd (Value.type.inj (congrArg Obj.cls (Option.some.inj e))) (by decide)
    · rintro a (rfl | rfl | rfl) q
      · rcases q with q | q | q
        · exact absurd q hXI
        · exact absurd q hIC
        · exact absurd q hID
      · rw [hoC]; simp
      · rw [hw]; simp
    · intro i y hy v hv
      refine hv.kpb kk (comp_vars_cell hfs hkf hy) ?_
      rintro a o (rfl | rfl | rfl) e v q
      · rw [hoI4] at e; cases e; obtain ⟨vs, z⟩ := hI5; rw [z] at q; cases q
      · rw [hoC4] at e; cases e; exact hCcell v q
      · rw [hD4] at e; cases e; cases q
  have fpI : ∀ b ∈ fp, b ≠ C ∧ b ≠ D ∧ (b = I ∨ ¬ N3 I C D b) := by
    intro b hb'
    rcases hfp b hb' with rfl | ⟨_, o, e, z⟩
    · exact ⟨hIC, hID, .inl rfl⟩
    · have q1 : b ≠ C := fun q => by rw [q, hC2] at e; cases e
      have q2 : b ≠ D := fun q => by rw [q, hD2] at e; cases e
      refine ⟨q1, q2, ?_⟩
      by_cases q : b = I
      · exact .inl q
      · exact .inr (by rintro (h | h | h); exact q h; exact q1 h; exact q2 h)
  refine codeAny_compLoop_tests (fun k s' => ∃ j, k = ds.length + 1 - j ∧ CInv prog w hb X I C D s₄ p f ds St j s') ?_ (ds.length + 1)
    ⟨0, rfl, h0, Nat.zero_le _, .refl, rfl, hse.bare, ⟨_, hC4⟩, [], [], _, by simp [filterR], hD4, .nil⟩
  rintro k s' ⟨j, rfl, V⟩
  obtain ⟨es, ws, nD, hes, hDl, hws⟩ := V.acc
  obtain ⟨m, hm⟩ := V.ns
  rcases Nat.lt_or_ge j ds.length with hj | hj
  · refine W.item j s' _ _ hj V.st fun v h₁ tk hv hst₁ hk₁ => ?_
    obtain ⟨d, hd⟩ : ∃ d, ds[j]? = some d := ⟨ds[j], List.getElem?_eq_getElem hj⟩
    obtain ⟨bb, hpb, hfb⟩ := filterR_at hall hd
    have keep1 : ∀ b o, b ≠ I → s'.heap.get? b = some o → h₁.get? b = some o := fun b o hb e => hk₁ b o (by simpa using hb) e
    -- the variable is stored
    refine wpAny_assign_Name (wpAny_storeName_local (m := m) (lookup_relabel_local hx) (hm.at' fun o e => keep1 C o (Ne.symm hIC) e) (fun h₂ hn₂ hs₂ => ?_) (by
      show (sc.kind == ScopeKind.class || (sc.kind == ScopeKind.module && C != env.globals)) = false
      rw [hk]; rfl))
    have hs₂' : Heap.SameBut C h₁ h₂ := hs₂
    have hn₂' : h₂.Ns C (fun y => if y = x then some v else m y) := hn₂
    have keep2 : ∀ b o, b ≠ I → b ≠ C → s'.heap.get? b = some o → h₂.get? b = some o := fun b o h1 h2 e => hs₂'.extBut b o h2 (keep1 b o h1 e)
    have kp2 : KpB (N3 I C D) hb s₄.heap h₂ := V.kp.trans (.strict fun b o q e => keep2 b o (fun z => q (.inl z)) (fun z => q (.inr (.inl z))) e)
    have st2 : St (j + 1) h₂ := W.frame _ _ _ hst₁ fun b hb' o e => hs₂'.extBut b o (fpI b hb').1 e
    have hD2' : h₂.get? D = some { cls := .type "list", data := .seq (List.toArray ws) nD } := keep2 D _ (Ne.symm hID) (Ne.symm hCD) hDl
    -- the item as data
    have rv : Rp prog w h₂ (fun a => ¬ X3 X C D a) v d := by
      have r0 := hitem s₂.heap (fun _ _ _ e _ => e) j v hv d hd
      refine r0.there.to (fun a q => ?_) fun a o q e z => ?_
      · rintro (h | h | h)
        · exact q.1 h
        · exact q.2.2 (h ▸ hC2)
        · exact q.2.2 (h ▸ hD2)
      have nI : a ≠ I := fun z' => by
        rw [z', hoI] at e; cases e; exact hI4 z
      exact kp2.obj a o (by rintro (h | h | h); exact nI h; exact (by rw [h, hC2] at e; cases e); exact (by rw [h, hD2] at e; cases e)) (k24.obj a o e z.ne) z.ne
    have ws2 : RpL prog w h₂ (fun a => ¬ X3 X C D a) ws es := hws.to (fun _ q => q) fun a o q e z => by
      refine keep2 a o (fun z' => ?_) (fun z' => q (.inr (.inl z'))) e
      obtain ⟨o', e', _, _, nd, _⟩ := hStI _ _ V.st
      rw [z', e'] at e; cases e; exact nd z
    have se2 : SE prog w hb A (Γ.into sc x) (compEnvC sc cl C env) ρ (some d) (X3 X C D) O { s' with heap := h₂, toks := tk + 1 } :=
      (seAt { s' with heap := h₂, toks := tk + 1 } kp2 V.bare ⟨_, hn₂'⟩ ⟨_, _, hD2'⟩).tell hx hn₂' (by simp) rv
    have fpk : ∀ h', Kp hb h₂ h' → ∀ b ∈ fp, ∀ o, h₂.get? b = some o → h'.get? b = some o := by
      intro h' kk b hb' o e
      rcases hfp b hb' with rfl | ⟨_, o', e', z⟩
      · obtain ⟨o', e', nf, _⟩ := hStI _ _ st2
        rw [e'] at e; cases e; exact kk.obj _ _ e' nf
      · have nI : b ≠ I := fun q => by rw [q, hoI] at e'; cases e'; exact hI4 z
        have := kp2.obj b o' (by rintro (h | h | h); exact nI h; exact (fpI b hb').1 h; exact (fpI b hb').2.1 h) (k24.obj b o' e' z.ne) z.ne
        rw [this] at e; cases e
        exact kk.obj _ _ this z.ne
    refine htest _ d se2 bb hpb _ _ fun s₃ n3 => ?_
    cases bb with
    | false =>
      simp only [Bool.false_eq_true, if_false]
      refine ⟨ds.length + 1 - (j + 1), by omega, j + 1, rfl, W.frame _ _ _ st2 ?_, hj, kp2.trans n3.kp.b, n3.os.trans V.os, n3.gens V.bare, ⟨_, n3.kp.ns hn₂'⟩, es, ws, nD, ?_, n3.kp.obj _ _ hD2' ne_list, ws2.kp n3.kp⟩
      · exact fpk _ n3.kp
      · rw [List.take_add_one, hd]
        exact (filterR_snoc hes).2 hpb
    | true =>
      simp only [if_true]
      obtain ⟨y, hy⟩ := hfb rfl
      refine helt _ d (se2.nx n3) (by rw [hy]; intro h; cases h) _ _ (fun yv s₅ d' e n5 ry _ => ?_) fun e s' x ex _ => by rw [hy] at ex; cases ex
      rw [hy] at e; cases e
      have n25 := n3.trans n5
      refine wpAny_list_append_plain (items := ws.toArray) ⟨nD, n25.kp.obj _ _ hD2' ne_list⟩ (fun h₆ hp₆ hs₆ => ?_) ?_
      · have k26 : KpB (N3 I C D) hb h₂ h₆ := KpB.trans n25.kp.b (.strict fun b o q e => hs₆.extBut b o (fun z => q (.inr (.inr z))) e)
        obtain ⟨n6, hp₆⟩ := hp₆
        refine ⟨ds.length + 1 - (j + 1), by omega, j + 1, rfl, W.frame _ _ _ st2 ?_, hj, kp2.trans k26, n25.os.trans V.os, n25.gens V.bare, ⟨_, (n25.kp.ns hn₂').at' fun o e => hs₆.extBut _ o hCD e⟩, es ++ [y], ws ++ [yv], n6, ?_, ?_, ?_⟩
        · intro b hb' o e
          exact hs₆.extBut b o (fpI b hb').2.1 (fpk _ n25.kp b hb' o e)
        · rw [List.take_add_one, hd]
          exact (filterR_snoc hes).1 y hpb hy
        · simpa using hp₆
        · exact RpL.to (fun _ q => q) (fun a o q e _ => hs₆.extBut a o (fun z => q (.inr (.inr z))) e) ((ws2.kp n25.kp).append (.cons ry .nil))
      · have h1 := hws.length
        have h2 := filterR_len hes
        have h3 : (ds.take j).length ≤ ds.length := by simp [List.length_take]; omega
        have : ws.toArray.size ≤ LIM := by simp; omega
        exact size_lim this
  · refine W.done s' _ _ (by rw [show ds.length = j from Nat.le_antisymm hj V.jle]; exact V.st) fun h' tk hk' => ?_
    have hj' : j = ds.length := Nat.le_antisymm V.jle hj
    subst hj'
    rw [List.take_length] at hes
    rw [hall] at hes; cases hes
    have keep1 : ∀ b o, b ≠ I → s'.heap.get? b = some o → h'.get? b = some o := fun b o hb e => hk' b o (by simpa using hb) e
    refine hR { s' with heap := h', toks := tk } (V.kp.trans (.strict fun b o q e => keep1 b o (fun z => q (.inl z)) e)) V.os V.bare ⟨m, hm.at' fun o e => keep1 C o (Ne.symm hIC) e⟩ ⟨ws, nD, keep1 D _ (Ne.symm hID) hDl, ?_⟩
    refine hws.to (fun _ q => q) fun a o q e z => keep1 a o (fun z' => ?_) e
    obtain ⟨o', e', _, _, nd, _⟩ := hStI _ _ V.st
    rw [z', e'] at e; cases e; exact nd z
end
end Mine

-- M16
namespace Mine
open PySem PySem.Calls PyProof.Rows

section
variable {prog : Program} {w : World} {hb : Heap} {cO : Addr} {A : Around} {Γ : Sc} {env : Env} {ρ : Rho} {c : Option PyData} {X O : Addr → Prop} {s : Shared}

noncomputable def CEnd (prog : Program) (w : World) (hb : Heap) (X : Addr → Prop) (s : Shared) (es : List PyData) (D C : Addr) (s' : Shared) : Prop :=
  Nx hb s s' ∧ s.heap.get? C = none ∧ s.heap.get? D = none ∧ C ≠ D ∧ (∃ m, s'.heap.Ns C m) ∧ ∃ ws n, s'.heap.get? D = some { cls := .type "list", data := .seq (List.toArray ws) n } ∧ RpL prog w s'.heap (fun a => ¬ X3 X C D a) ws es ∧ es.length ≤ LIM

theorem filterR_ne {p f : PyData → R PyData} {k : Exk} : ∀ {xs : List PyData}, filterR p f xs ≠ .exc k
  | [], h => by simp [filterR] at h
  | x :: r, h => by
    simp only [filterR] at h
    split at h
    · split at h
      · split at h <;> cases h
      · cases h
    · exact filterR_ne h
    · cases h

theorem comp_run {elt it : Expr} {x : Str} {px pos cpos : Pos} {ifs : List Expr} {sc : Scope} {p f : PyData → R PyData} {src : R (List PyData)} {fr : Bool} {use : Option (Value → Sem Unit)} {Q : Value → Shared → Prop} {E : Value → Shared → Prop}
    (S : SE prog w hb A Γ env ρ c X O s) (hsc : compSc Γ sc x = true) (hset : isSetE it = false) (hsrc : IOk prog w hb cO A X s (eval it env) src)
    (htest : ∀ cl C D s₃ d, SE prog w hb A (Γ.into sc x) (compEnvC sc cl C env) ρ (some d) (X3 X C D) O s₃ → FOk prog w hb A ifs (compEnvC sc cl C env) s₃ (p d))
    (helt : ∀ cl C D s₃ d, SE prog w hb A (Γ.into sc x) (compEnvC sc cl C env) ρ (some d) (X3 X C D) O s₃ → EOk prog w hb cO A (X3 X C D) fr s₃ (eval elt (compEnvC sc cl C env)) (f d))
    (hcl : ∀ p ∈ sc.names, p.2 = .free → ∃ c, env.cells.lookup p.1 = some c)
    (hok : src.bind (filterR p f) ≠ .stuck)
    (hQ : ∀ es D C s', src.bind (filterR p f) = .ok es → CEnd prog w hb X s es D C s' → compPost (model prog w) A E use Q (.ref D) C (.ok .next) s')
    (hE : ∀ e s' k, src.bind (filterR p f) = .exc k → Flown hb s s' e (exCls cO k) → E (.ref e) s') :
    wpAny (model prog w) A (comprehension (.ListComp elt [⟨.Name x px, it, ifs, 0⟩] sc pos) sc env cpos (newList []) false (eval it env) use) Q E s := by
  have hsc' := hsc
  simp only [compSc, Bool.and_eq_true, beq_iff_eq, Option.isNone_iff_eq_none] at hsc'
  obtain ⟨⟨⟨⟨⟨hcs, hk⟩, hx⟩, _⟩, _⟩, hall⟩ := hsc'
  rw [List.all_eq_true] at hall
  obtain ⟨cl, hclos, hcl1, hcl2⟩ := closure_ok hcl
  have hnames : ∀ y ∈ sc.names, y.2 = .local → sc.names.lookup y.1 = some .local := by
    intro y hy hl
    have := hall y hy
    simp only [Bool.and_eq_true, Bool.or_eq_true, bne_iff_ne, ne_eq, beq_iff_eq] at this
    rcases this.1.2 with h | h
    · exact absurd hl h
    · exact h
  have hncell : ∀ y ∈ sc.names, y.2 ≠ .cell := by
    intro y hy
    have := hall y hy
    simp only [Bool.and_eq_true, bne_iff_ne, ne_eq] at this
    exact this.1.1
  refine wpAny_comprehension_free (use := use) rfl (fun v => set_folded hset v) hclos hk hnames ?_
  refine hsrc (bind_ne hok) _ _ (fun I s₂ ds e n2 hlen hI0 hit => ?_) fun e s' k ek fl => hE e s' k (bind_exc ek) fl
  obtain ⟨fp, P, St, W, st0, hfp, hI, hXI, hStI, hitem⟩ := hit
  rw [bind_ok e] at hok hQ
  obtain ⟨es, hes⟩ : ∃ es, filterR p f ds = .ok es := by
    cases q : filterR p f ds with
    | ok es => exact ⟨es, rfl⟩
    | stuck => exact absurd q hok
    | exc k => exact absurd q filterR_ne
  refine wpAny_newList ?_
  have hD0 : s₂.heap.get? s₂.heap.objs.size = none := get_size _
  refine wpAny_newFunctionEnv (hk := hk) hncell (by intro x hx; cases hx) fun h' hns hsb => ?_
  have hs1 : ∀ b o, s₂.heap.get? b = some o → h'.get? b = some o := fun b o e => by
    have e1 := Heap.get?_push_of_some { cls := .type "list", data := .seq #[] } e
    exact hsb.extBut b o (Nat.ne_of_lt (Heap.lt_size e1)) (Heap.get?_push_of_some _ e1)
  have hC2 : s₂.heap.get? (s₂.heap.push { cls := .type "list", data := .seq #[] }).objs.size = none := by
    cases q : s₂.heap.get? (s₂.heap.push { cls := .type "list", data := .seq #[] }).objs.size with
    | none => rfl
    | some o =>
      have := Heap.lt_size (Heap.get?_push_of_some { cls := .type "list", data := .seq #[] } q)
      exact absurd this (Nat.lt_irrefl _)
  have hCD : (s₂.heap.push { cls := .type "list", data := .seq #[] }).objs.size ≠ s₂.heap.objs.size := by
    have : (s₂.heap.push { cls := .type "list", data := .seq #[] }).objs.size = s₂.heap.objs.size + 1 := by simp [Heap.push]
    omega
  have hD4 : h'.get? s₂.heap.objs.size = some { cls := .type "list", data := .seq #[] } := by
    have e1 := Heap.get?_push_size s₂.heap (o := { cls := .type "list", data := .seq #[] }) rfl
    exact hsb.extBut _ _ (Nat.ne_of_lt (Heap.lt_size e1)) (Heap.get?_push_of_some _ e1)
  generalize hC : (s₂.heap.push { cls := .type "list", data := .seq #[] }).objs.size = C at *
  generalize hD : s₂.heap.objs.size = D at *
  have hC0 : s.heap.get? C = none := n2.kp.none hC2
  have hDs : s.heap.get? D = none := n2.kp.none hD0
  have hbn : ∀ a, s.heap.get? a = none → hb.get? a = none := fun a e => by
    cases q : hb.get? a with
    | none => rfl
    | some o => rw [S.stays a o q] at e; cases e
  have n4 : Nx hb s { s₂ with heap := h', toks := s₂.toks + ([] : List (Str × Value)).length } := n2.trans (.heap hs1)
  have hse := comp_SE (s' := { s₂ with heap := h', toks := s₂.toks + ([] : List (Str × Value)).length }) S hsc hcl1 hcl2 n4 hC0 hDs (by
    obtain ⟨o, ho, _⟩ := ns_not_fields hns
    show h'.get? C ≠ none
    rw [ho]; simp) (by
    show h'.get? D ≠ none
    rw [hD4]; simp)
  have hfrm : ∀ a, N3 I C D a → a ∉ frs A := by
    rintro a q hm
    obtain ⟨o, e, _⟩ := S.stk.2 a hm
    rcases q with rfl | rfl | rfl
    · rw [hI0] at e; cases e
    · rw [hC0] at e; cases e
    · rw [hDs] at e; cases e
  have nO : ∀ a, s.heap.get? a = none → ¬ O a := fun a e q => S.xin a (S.ox a q) e
  have main := comp_loop (prog := prog) (w := w) (hb := hb) (cO := cO) (elt := elt) (it := it) (px := px) (pos := pos) (A := A) (ifs := ifs) (Γ := Γ) (env := env) (ρ := ρ) (X := X) (O := O) (sc := sc) (x := x) (cl := cl) (I := I) (C := C) (D := D) (s₂ := s₂) (s₄ := { s₂ with heap := h', toks := s₂.toks + ([] : List (Str × Value)).length }) (p := p) (f := f) (ds := ds) (fr := fr)
    (R' := compPost (model prog w) A E use Q (.ref D) C) hsc (S.fs hcs) S.kind W hfp hXI hStI (nO I hI0) (nO C hC0) (nO D hDs) hitem hI hC2 hD0 (hbn I hI0) (hbn C hC0) (hbn D hDs) hCD hfrm hlen hes
    (fun s₃ d => htest cl C D s₃ d) (fun s₃ d => helt cl C D s₃ d) (.strict hs1) hse hD4 hns (W.frame _ _ _ st0 fun b _ o e => hs1 b o e)
    (fun s' k1 k2 k3 k4 k5 => by
      obtain ⟨ws, n, g, r⟩ := k5
      refine hQ es D C s' hes ⟨⟨k2.trans n4.os, k1.of n4.kp ?_, fun _ => k3⟩, hC0, hDs, hCD, k4, ws, n, g, r, Nat.le_trans (filterR_len hes) hlen⟩
      rintro a (rfl | rfl | rfl) <;> assumption)
  exact codeAny_compStart_list main (W.self 0 _ _ _ (W.frame _ _ _ st0 fun b _ o e => hs1 b o e) main)
end
end Mine

-- M17
namespace Mine
open PySem PySem.Calls PyProof.Rows

section
variable {prog : Program} {w : World} {hb : Heap} {cO : Addr} {A : Around} {Γ : Sc} {env : Env} {ρ : Rho} {c : Option PyData} {X O : Addr → Prop} {s : Shared} {T : Tb} {F : FT} {n : Nat}

theorem mem_lookup_free {sc : Scope} {Γ : Sc} {x : Str} (h : compSc Γ sc x = true) : ∀ p ∈ sc.names, p.2 = .free → Γ.fs.names.lookup p.1 = some .cell := by
  simp only [compSc, Bool.and_eq_true, beq_iff_eq] at h
  obtain ⟨_, hall⟩ := h
  rw [List.all_eq_true] at hall
  intro p hp hf
  have := hall p hp
  simp only [Bool.and_eq_true, Bool.or_eq_true, bne_iff_ne, ne_eq, beq_iff_eq] at this
  rcases this.2 with h | h
  · exact absurd hf h
  · exact h

theorem CEnd.after {es : List PyData} {D C : Addr} {s s' : Shared} {h' : Heap} (e : CEnd prog w hb X s es D C s') (hX : XIn X s.heap) (hs : Heap.SameBut C s'.heap h') :
    Nx hb s { s' with heap := h' } ∧ Rp prog w h' (fun a => ¬ X a) (.ref D) (.list es) := by
  obtain ⟨n1, hC, hD, hCD, _, ws, n, g, r, hl⟩ := e
  refine ⟨⟨n1.os, KpB.of (N := fun a => a = C) (.strict fun b o q e => hs.extBut b o q e) n1.kp (by rintro a rfl; exact hC), n1.gens⟩, ?_⟩
  exact .list (hX.new hD) (hs.extBut D _ (Ne.symm hCD) g) hl (r.to (fun a q z => q (.inl z)) fun a o q e _ => hs.extBut a o (fun z => q (.inr (.inl z))) e)

theorem eok_comp {elt it : Expr} {x : Str} {px pos : Pos} {ifs : List Expr} {sc : Scope} {p f : PyData → R PyData} {src : R (List PyData)} {fr : Bool}
    (S : SE prog w hb A Γ env ρ c X O s) (hsc : compSc Γ sc x = true) (hset : isSetE it = false) (hsrc : IOk prog w hb cO A X s (eval it env) src)
    (htest : ∀ cl C D s₃ d, SE prog w hb A (Γ.into sc x) (compEnvC sc cl C env) ρ (some d) (X3 X C D) O s₃ → FOk prog w hb A ifs (compEnvC sc cl C env) s₃ (p d))
    (helt : ∀ cl C D s₃ d, SE prog w hb A (Γ.into sc x) (compEnvC sc cl C env) ρ (some d) (X3 X C D) O s₃ → EOk prog w hb cO A (X3 X C D) fr s₃ (eval elt (compEnvC sc cl C env)) (f d)) :
    EOk prog w hb cO A X true s (eval (.ListComp elt [⟨.Name x px, it, ifs, 0⟩] sc pos) env) ((src.bind (filterR p f)).bind fun ys => .ok (.list ys)) := by
  intro hr Q E hQ hE
  have hcs : Γ.cs = none := by
    have h := hsc
    simp only [compSc, Bool.and_eq_true, beq_iff_eq, Option.isNone_iff_eq_none] at h
    exact h.1.1.1.1.1
  rw [eval_ListComp]
  show wpAny _ A (comprehension (.ListComp elt [⟨.Name x px, it, ifs, 0⟩] sc pos) sc env _ (newList []) false (eval it env) none) Q E s
  refine comp_run (use := none) (Q := Q) (E := E) S hsc hset hsrc htest helt (fun p hp hf => S.cel hcs _ (mem_lookup_free hsc p hp hf)) (bind_ne hr) (fun es D C s' e ce => ?_) fun e s' k ek fl => hE e s' k (bind_exc ek) fl
  obtain ⟨m, hm⟩ := ce.2.2.2.2.1
  refine ⟨m, hm, fun h' hs => ?_⟩
  obtain ⟨n1, r1⟩ := ce.after S.xin hs
  exact hQ _ _ _ (by rw [e]; rfl) n1 r1 fun _ ds _ => ⟨D, rfl, ce.2.2.1⟩

theorem iok_range {g : Str} {fp pos : Pos} {a : Expr} {r : R PyData} {fr : Bool} (G : GF prog w hb cO T F n) (hA : Room A n) (S : SE prog w hb A Γ env ρ c X O s) (hg : Γ.isBlt g "range" = true) (hn : [a].all noStar = true)
    (h : EOk prog w hb cO A X fr s (eval a env) r) : IOk prog w hb cO A X s (eval (.Call (.Name g fp) [a] [] pos) env) (r.bind rangeD) := by
  intro hr K E hK hE
  refine call1_typ (y := "range") S hg G.range hn (h (bind_ne hr) _ _ (fun v s₁ da e n1 ra _ => ?_) fun e s' x ex f => hE e s' x (bind_exc ex) f)
  rw [bind_ok e] at hr hK
  cases ra with
  | int k t =>
    simp only [rangeD] at hr hK
    by_cases hk : -1048576 ≤ k ∧ k ≤ 1048576
    · rw [if_pos hk] at hK
      refine it_range (hb := hb) (X := X) hA.2.2 ((S.nx n1).xin) hk.2 hk.1 fun I s₂ n2 hl hI hit => ?_
      exact hK I s₂ _ rfl (n1.trans n2) hl (n1.kp.none hI) hit
    · rw [if_neg hk] at hr; exact absurd rfl hr
  | _ => exact absurd rfl hr

theorem iok_plain {e : Expr} {r : R PyData} {fr : Bool} (hh : A.handled = none) (S : SE prog w hb A Γ env ρ c X O s) (h : EOk prog w hb cO A X fr s (eval e env) r) : IOk prog w hb cO A X s (eval e env) (r.bind itemsD) := by
  intro hr K E hK hE
  refine h (bind_ne hr) _ _ (fun v s₁ da e n1 ra _ => ?_) fun e s' x ex f => hE e s' x (bind_exc ex) f
  rw [bind_ok e] at hr hK
  cases da with
  | list ds => exact it_list (hb := hb) hh ((S.nx n1).xin) ra fun I s₂ n2 hl hI hit => hK I s₂ ds rfl (n1.trans n2) hl (n1.kp.none hI) hit
  | tuple ds => exact it_tuple (hb := hb) hh ((S.nx n1).xin) ra fun I s₂ n2 hl hI hit => hK I s₂ ds rfl (n1.trans n2) hl (n1.kp.none hI) hit
  | dict kv => exact it_dict (hb := hb) hh ((S.nx n1).xin) ra fun I s₂ n2 hl hI hit => hK I s₂ _ rfl (n1.trans n2) hl (n1.kp.none hI) hit
  | _ => exact absurd rfl hr
end
end Mine

-- M18
namespace Mine
open PySem PySem.Calls PyProof.Rows

section
variable {prog : Program} {w : World} {hb : Heap} {cO : Addr} {A : Around} {Γ : Sc} {env : Env} {ρ : Rho} {c : Option PyData} {X O : Addr → Prop} {s : Shared} {T : Tb} {F : FT} {n : Nat}

theorem SE.var_kind {M : Model} {E : Value → Shared → Prop} {x : Str} {v : Value} {pos : Pos} {Q : Value → Shared → Prop} (S : SE prog w hb A Γ env ρ c X O s) (hd : (x == ("__debug__" : Str)) = false) (h : ValOf env s.heap x v) (hQ : Q v s) : wpAny M A (eval (.Name x pos) env) Q E s :=
  wpAny_Name (h.load S.kind hQ) hd
theorem isVar_debug {i : Nat} {x : Str} (h : Γ.isVar i x = true) : (x == ("__debug__" : Str)) = false := by
  simp only [Sc.isVar, Bool.and_eq_true] at h
  simpa using h.1.2
theorem isCv_debug {x : Str} (h : Γ.isCv x = true) : (x == ("__debug__" : Str)) = false := by
  simp only [Sc.isCv, Bool.and_eq_true] at h
  simpa using h.1.1

theorem eok_var {i : Nat} {x : Str} {pos : Pos} (S : SE prog w hb A Γ env ρ c X O s) (h : Γ.isVar i x = true) : EOk prog w hb cO A X false s (eval (.Name x pos) env) (getV ρ i) := by
  intro hr Q E hQ hE
  unfold getV at hr hQ
  split at hr
  · rename_i d hd
    rw [hd] at hQ
    obtain ⟨v, q1, q2⟩ := S.vars i x _ h hd (by simp)
    exact S.var_kind (isVar_debug h) q1 (hQ v s d rfl (.refl _) q2 fun h => by cases h)
  · exact absurd rfl hr
theorem sok_own {i : Nat} {x : Str} {pos : Pos} (S : SE prog w hb A Γ env ρ c X O s) (h : Γ.isVar i x = true) : SOk prog w hb cO A X s (eval (.Name x pos) env) (getOwn ρ i) := by
  intro hr Q E hQ hE
  unfold getOwn at hr hQ
  split at hr
  · rename_i d hd
    rw [hd] at hQ
    obtain ⟨v, q1, a, vs, n, rfl, hx, g, l, r⟩ := S.vars i x _ h hd (by simp)
    exact S.var_kind (isVar_debug h) q1 (hQ _ s _ rfl (.refl _) (.inr ⟨a, vs, n, d, rfl, rfl, g, l, r⟩))
  · exact absurd rfl hr
theorem eok_cv {x : Str} {pos : Pos} (S : SE prog w hb A Γ env ρ c X O s) (h : Γ.isCv x = true) : EOk prog w hb cO A X false s (eval (.Name x pos) env) (ev F ρ c .cv) := by
  intro hr Q E hQ hE
  cases c with
  | none => exact absurd rfl hr
  | some d =>
    obtain ⟨v, q1, q2⟩ := S.cvar x d h rfl
    exact S.var_kind (isCv_debug h) q1 (hQ v s d rfl (.refl _) q2 fun h => by cases h)
theorem isTrue_bop_whole {op : BoolOp} {vs : List Expr} {pos : Pos} {w1 w2 : Sem Value} : isTrue (.BoolOp op vs pos) env w1 = isTrue (.BoolOp op vs pos) env w2 := by
  exact rfl

theorem tok_one {isAnd : Bool} {b : Expr} {pos : Pos} {rr : R PyData} {whole : Sem Value} (h : TOk prog w hb cO A s (PySem.isTrue b env (eval b env)) rr) : TOk prog w hb cO A s (PySem.isTrue (.BoolOp (bopOf isAnd) [b] pos) env whole) rr := by
  intro h0 hr Q E hQ hE
  cases isAnd with
  | true =>
    refine isTrue_and (h h0 hr _ _ (fun b s₁ e n1 => ?_) hE)
    cases b with
    | true => simpa using isTrue_and_nil (hQ _ _ e n1)
    | false => simpa using hQ _ _ e n1
  | false =>
    refine isTrue_or (h h0 hr _ _ (fun b s₁ e n1 => ?_) hE)
    cases b with
    | true => simpa using hQ _ _ e n1
    | false => simpa using isTrue_or_nil (hQ _ _ e n1)

theorem eok_isT {l r : Str} {pl pr pos cp : Pos} {a : Expr} {p fr : Bool} {n : String} {ra : R PyData} {T' : Tb} {F' : FT} {m : Nat} (G : GF prog w hb cO T' F' m) (S : SE prog w hb A Γ env ρ c X O s) (hl : Γ.isBlt l "type" = true) (hr' : Γ.isBlt r (Str.ofString n) = true) (hn : n = "int" ∨ n = "bool") (hs : [a].all noStar = true)
    (h1 : EOk prog w hb cO A X fr s (eval a env) ra) :
    EOk prog w hb cO A X false s (eval (.Compare (.Call (.Name l pl) [a] [] cp) [isOf p] [.Name r pr] pos) env) (ra.bind fun a => isTD p a n) ∧
      ∀ whole, TOk prog w hb cO A s (isTrue (.Compare (.Call (.Name l pl) [a] [] cp) [isOf p] [.Name r pr] pos) env whole) (ra.bind fun a => isTD p a n) := by
  have B : Blt hb (Str.ofString n) (.type n) := by
    rcases hn with rfl | rfl
    · exact G.int
    · exact G.bool
  constructor
  · intro hr Q E hQ hE
    refine wpAny_Compare1 (call1_typ S hl G.type hs (h1 (bind_ne hr) _ _ (fun v s₁ da e1 n1 r1 _ => ?_) fun e s' x ex f => hE e s' x (bind_exc ex) f)) (marks_of rfl)
    rw [bind_ok e1] at hr hQ hE
    cases hd : isTD p da n with
    | stuck => exact absurd hd hr
    | exc k => exact absurd hd isTD_ne
    | ok d =>
      refine wpAny_mono (op_isT (Q := Q) (E := E) p hn (.inl r1) hd fun x e => ?_) (fun v s' h => ?_) fun _ _ e => e
      · subst e
        exact hQ _ s₁ _ hd n1 (.bool x) fun h => by cases h
      · obtain ⟨rfl, h⟩ := h
        exact (S.nx n1).blt hr' B h
  · intro whole _ hr Q E hQ hE
    refine wpAny_isTrue_Compare1 (call1_typ S hl G.type hs (h1 (bind_ne hr) _ _ (fun v s₁ da e1 n1 r1 _ => ?_) fun e s' x ex f => hE e s' x (bind_exc ex) f)) (marks_of rfl)
    rw [bind_ok e1] at hr hQ hE
    cases hd : isTD p da n with
    | stuck => exact absurd hd hr
    | exc k => exact absurd hd isTD_ne
    | ok d =>
      refine wpAny_mono (op_isT (Q := fun v s' => wpAny (model prog w) A (truthy v) Q E s') (E := E) p hn (.inl r1) hd fun x e => ?_) (fun v s' h => ?_) fun _ _ e => e
      · subst e
        exact wpAny_truthy_bool (hQ _ s₁ hd n1)
      · obtain ⟨rfl, h⟩ := h
        exact (S.nx n1).blt hr' B h

theorem eok_min2 {g : Str} {fp pos : Pos} {a b : Expr} {r1 r2 : R PyData} {f1 f2 : Bool} (G : GF prog w hb cO T F n) (hA : Room A n) (S : SE prog w hb A Γ env ρ c X O s) (hg : Γ.isBlt g "min" = true) (hn : [a, b].all noStar = true)
    (h1 : EOk prog w hb cO A X f1 s (eval a env) r1) (h2 : ∀ s', Nx hb s s' → EOk prog w hb cO A X f2 s' (eval b env) r2) :
    EOk prog w hb cO A X false s (eval (.Call (.Name g fp) [a, b] [] pos) env) (r1.bind fun x => r2.bind fun y => min2D x y) := by
  intro hr Q E hQ hE
  refine call2_blt S hg G.min hn (h1 (bind_ne hr) _ _ (fun v s₁ da e1 n1 q1 _ => ?_) fun e s' x ex f => hE e s' x (bind_exc ex) f)
  rw [bind_ok e1] at hr hQ hE
  refine h2 s₁ n1 (bind_ne hr) _ _ (fun u s₂ db e2 n2 q2 _ => ?_) fun e s' x ex f => hE e s' x (bind_exc ex) (f.from n1)
  rw [bind_ok e2] at hr hQ hE
  cases hd : min2D da db with
  | stuck => exact absurd hd hr
  | exc k => exact absurd hd min2D_ne
  | ok d => exact op_min2 (hb := hb) hA.2.2 (.inl (q1.kp n2.kp)) (.inl q2) hd fun v s' n3 q => hQ v s' d hd ((n1.trans n2).trans n3) q fun h => by cases h

noncomputable def PE (prog : Program) (w : World) (hb : Heap) (cO : Addr) (T : Tb) (F : FT) (A : Around) (e : E) : Prop :=
  ∀ Γ env ρ c X O s p, wf T Γ e p = true → SE prog w hb A Γ env ρ c X O s →
    EOk prog w hb cO A X (freshE e) s (eval (rb T Γ e p) env) (ev F ρ c e) ∧ TOk prog w hb cO A s (isTrue (rb T Γ e p) env (eval (rb T Γ e p) env)) (ev F ρ c e) ∧ IOk prog w hb cO A X s (eval (rb T Γ e p) env) (evI F ρ c e) ∧ SOk prog w hb cO A X s (eval (rb T Γ e p) env) (sm ρ e (ev F ρ c e))
noncomputable def PL (prog : Program) (w : World) (hb : Heap) (cO : Addr) (T : Tb) (F : FT) (A : Around) (es : List E) : Prop :=
  ∀ Γ env ρ c X O s ps, wfL T Γ es ps = true → SE prog w hb A Γ env ρ c X O s →
    LOk prog w hb cO A X s ((rbL T Γ es ps).map fun p => (false, eval p env)) (evL F ρ c es) ∧ (∀ ds, evL F ρ c es = .ok ds → ds.length = es.length)

theorem pe_mk {p : Expr} {r : R PyData} {ri : R (List PyData)} {rs : R PyData} {fr : Bool} (hh : A.handled = none) (S : SE prog w hb A Γ env ρ c X O s) (h1 : EOk prog w hb cO A X fr s (eval p env) r) (h2 : TOk prog w hb cO A s (isTrue p env (eval p env)) r)
    (hi : ri = r.bind itemsD) (hs : rs = r) : EOk prog w hb cO A X fr s (eval p env) r ∧ TOk prog w hb cO A s (isTrue p env (eval p env)) r ∧ IOk prog w hb cO A X s (eval p env) ri ∧ SOk prog w hb cO A X s (eval p env) rs := by
  subst hi hs
  exact ⟨h1, h2, iok_plain hh S h1, h1.sok⟩
end
end Mine

-- M19
namespace Mine
open PySem PySem.Calls PyProof.Rows

theorem and_l {a b : Bool} (h : (a && b) = true) : a = true := (Bool.and_eq_true_iff.mp h).1
theorem and_r {a b : Bool} (h : (a && b) = true) : b = true := (Bool.and_eq_true_iff.mp h).2
theorem getD_some {α : Type} {l : List α} {k : Nat} {d : α} (h : decide (k < l.length) = true) : l[k]? = some (l.getD k d) := by
  have h := of_decide_eq_true h
  rw [List.getD_eq_getElem?_getD, List.getElem?_eq_getElem h]; rfl
section
variable {T : Tb} {Γ : Sc}
theorem rb_noStar {e : E} {p : Expr} : noStar (rb T Γ e p) = true := by
  cases e with
  | bop q l r => show noStar (match decide ((kids p).length ≤ 2) with | true => _ | false => _) = true; cases decide ((kids p).length ≤ 2) <;> rfl
  | _ => rfl
theorem rb_noSet {e : E} {p : Expr} : isSetE (rb T Γ e p) = false := by
  cases e with
  | bop q l r => show isSetE (match decide ((kids p).length ≤ 2) with | true => _ | false => _) = false; cases decide ((kids p).length ≤ 2) <;> rfl
  | _ => rfl
theorem rb_sub {e : E} {p : Expr} (o i : Value) : subscripted (rb T Γ e p) false o i = operate [o, i] (getItem o i) := by
  cases e with
  | bop q l r => show subscripted (match decide ((kids p).length ≤ 2) with | true => _ | false => _) false o i = _; cases decide ((kids p).length ≤ 2) <;> rfl
  | _ => rfl
theorem rbL_noStar : ∀ {es : List E} {ps : List Expr}, (rbL T Γ es ps).all noStar = true
  | [], _ => rfl
  | e :: r, ps => by
    show (noStar (rb T Γ e (ps.getD 0 dE)) && (rbL T Γ r ps.tail).all noStar) = true
    rw [rb_noStar, rbL_noStar]; rfl
theorem rb_bop {q : Bool} : ∀ {l r : E} {p : Expr}, wf T Γ (.bop q l r) p = true → ∃ a b es, rb T Γ (.bop q l r) p = .BoolOp (bopOf q) (a :: b :: es) p.pos
  | l, r, p, h => by
    have h := and_r h
    change (match decide ((kids p).length ≤ 2) with | true => _ | false => _) = true at h
    cases hd : decide ((kids p).length ≤ 2) with
    | true =>
      refine ⟨rb T Γ l (kid p 0), rb T Γ r (kid p 1), [], ?_⟩
      show (match decide ((kids p).length ≤ 2) with | true => _ | false => _) = _
      rw [hd]
    | false =>
      rw [hd] at h
      have h1 := and_l h
      have h2 := and_r h
      cases r with
      | bop q' l' r' =>
        have hq : q = q' := beq_iff_eq.mp h1
        subst hq
        obtain ⟨a, b, es, e⟩ := rb_bop h2
        refine ⟨rb T Γ l (kid p 0), a, b :: es, ?_⟩
        show (match decide ((kids p).length ≤ 2) with | true => _ | false => _) = _
        rw [hd]
        show bopCons _ _ (rb T Γ (.bop q l' r') (.BoolOp (bopOf q) (kids p).tail p.pos)) _ = _
        rw [e]
        rfl
      | _ => exact ff_ne h1
end
section
variable {prog : Program} {w : World} {hb : Heap} {cO : Addr} {T : Tb} {F : FT} {n : Nat} {A : Around}

theorem args_ne {Γ : Sc} {es : List E} {ps : List Expr} (h : (!es.isEmpty) = true) : rbL T Γ es ps ≠ [] := by
  cases es with
  | nil => exact ff_ne h
  | cons e r => exact fun q => nomatch q
theorem room_units (hA : Room A n) : A.units + 70 < cLine := by
  have h := hA.2.1
  have : cLine = 9900 := rfl
  omega
theorem nl_no {s : Shared} {v : Value} {d : PyData} (h : false = true) : NewL s v d := ff_ne h

section
variable {Γ : Sc} {env : Env} {ρ : Rho} {c : Option PyData} {X O : Addr → Prop} {s : Shared} {r : R PyData}
theorem pe_bop {q : Bool} {l r : E} {p : Expr} (h : wf T Γ (.bop q l r) p = true)
    (e1 : EOk prog w hb cO A X (freshE l) s (eval (rb T Γ l (kid p 0)) env) (ev F ρ c l) ∧ TOk prog w hb cO A s (isTrue (rb T Γ l (kid p 0)) env (eval (rb T Γ l (kid p 0)) env)) (ev F ρ c l))
    (e2 : ∀ p', wf T Γ r p' = true → ∀ s', Nx hb s s' → EOk prog w hb cO A X (freshE r) s' (eval (rb T Γ r p') env) (ev F ρ c r) ∧ TOk prog w hb cO A s' (isTrue (rb T Γ r p') env (eval (rb T Γ r p') env)) (ev F ρ c r)) :
    EOk prog w hb cO A X false s (eval (rb T Γ (.bop q l r) p) env) (ev F ρ c (.bop q l r)) ∧ TOk prog w hb cO A s (isTrue (rb T Γ (.bop q l r) p) env (eval (rb T Γ (.bop q l r) p) env)) (ev F ρ c (.bop q l r)) := by
  have h := and_r h
  change (match decide ((kids p).length ≤ 2) with | true => _ | false => _) = true at h
  cases hd : decide ((kids p).length ≤ 2) with
  | true =>
    rw [hd] at h
    have er : rb T Γ (.bop q l r) p = .BoolOp (bopOf q) [rb T Γ l (kid p 0), rb T Γ r (kid p 1)] p.pos := by
      show (match decide ((kids p).length ≤ 2) with | true => _ | false => _) = _
      rw [hd]
    rw [er]
    exact ⟨eok_bop (es := []) (pos := p.pos) e1.1 fun s' n hr Q E hQ hE => BoolOp_one ((e2 _ h s' n).1 hr Q E hQ hE), tok_bop e1.2 fun s' n => tok_one (e2 _ h s' n).2⟩
  | false =>
    rw [hd] at h
    have h1 := and_l h
    have h2 := and_r h
    cases r with
    | bop q' l' r' =>
      have hq : q = q' := beq_iff_eq.mp h1
      subst hq
      obtain ⟨a, b, es, e⟩ := rb_bop h2
      have er : rb T Γ (.bop q l (.bop q l' r')) p = .BoolOp (bopOf q) (rb T Γ l (kid p 0) :: a :: b :: es) p.pos := by
        show (match decide ((kids p).length ≤ 2) with | true => _ | false => _) = _
        rw [hd]
        show bopCons _ _ (rb T Γ (.bop q l' r') (.BoolOp (bopOf q) (kids p).tail p.pos)) _ = _
        rw [e]
        rfl
      rw [er]
      have e2' := e2 _ h2
      rw [e] at e2'
      refine ⟨eok_bop (es := b :: es) (pos := p.pos) e1.1 fun s' n => (e2' s' n).1, tok_bop e1.2 fun s' n => ?_⟩
      rw [isTrue_bop_whole]
      exact (e2' s' n).2
    | _ => exact ff_ne h1
theorem pe_comp {elt src : E} {p : Expr} (S : SE prog w hb A Γ env ρ c X O s) (h1 : compSc Γ (scOf p) (nmOf (kid p 1)) = true) (hs : IOk prog w hb cO A X s (eval (rb T Γ src (kid p 2)) env) (evI F ρ c src))
    (he : ∀ cl C D s₃ d, SE prog w hb A (Γ.inC p) (compEnvC (scOf p) cl C env) ρ (some d) (X3 X C D) O s₃ → EOk prog w hb cO A (X3 X C D) (freshE elt) s₃ (eval (rb T (Γ.inC p) elt (kid p 0)) (compEnvC (scOf p) cl C env)) (ev F ρ (some d) elt)) :
    EOk prog w hb cO A X true s (eval (rb T Γ (.comp elt src) p) env) (ev F ρ c (.comp elt src)) := by
  have h5 := eok_comp (px := (kid p 1).pos) (pos := p.pos) (ifs := []) (p := fun _ => .ok (.bool true)) (f := fun d => ev F ρ (some d) elt) S h1 rb_noSet hs (fun cl C D s₃ d _ => .nil) he
  have e1 : ev F ρ c (.comp elt src) = ((evI F ρ c src).bind (filterR (fun _ => .ok (.bool true)) fun d => ev F ρ (some d) elt)).bind fun ys => .ok (.list ys) := by
    rw [ev_comp]
    cases evI F ρ c src with
    | ok xs => simp only [R.bind, mapR_filter]
    | exc k => rfl
    | stuck => rfl
  rw [← e1] at h5
  exact h5
theorem pe_compIf {elt cond src : E} {p : Expr} (S : SE prog w hb A Γ env ρ c X O s) (h1 : compSc Γ (scOf p) (nmOf (kid p 1)) = true) (hs : IOk prog w hb cO A X s (eval (rb T Γ src (kid p 2)) env) (evI F ρ c src))
    (he : ∀ cl C D s₃ d, SE prog w hb A (Γ.inC p) (compEnvC (scOf p) cl C env) ρ (some d) (X3 X C D) O s₃ → EOk prog w hb cO A (X3 X C D) (freshE elt) s₃ (eval (rb T (Γ.inC p) elt (kid p 0)) (compEnvC (scOf p) cl C env)) (ev F ρ (some d) elt))
    (hc : ∀ cl C D s₃ d, SE prog w hb A (Γ.inC p) (compEnvC (scOf p) cl C env) ρ (some d) (X3 X C D) O s₃ → TOk prog w hb cO A s₃ (isTrue (rb T (Γ.inC p) cond (kid p 3)) (compEnvC (scOf p) cl C env) (eval (rb T (Γ.inC p) cond (kid p 3)) (compEnvC (scOf p) cl C env))) (ev F ρ (some d) cond)) :
    EOk prog w hb cO A X true s (eval (rb T Γ (.compIf elt cond src) p) env) (ev F ρ c (.compIf elt cond src)) := by
  have h5 := eok_comp (px := (kid p 1).pos) (pos := p.pos) (ifs := [rb T (Γ.inC p) cond (kid p 3)]) (p := fun d => ev F ρ (some d) cond) (f := fun d => ev F ρ (some d) elt) S h1 rb_noSet hs (fun cl C D s₃ d S' => FOk.one (hc cl C D s₃ d S')) he
  have e1 : ev F ρ c (.compIf elt cond src) = ((evI F ρ c src).bind (filterR (fun d => ev F ρ (some d) cond) fun d => ev F ρ (some d) elt)).bind fun ys => .ok (.list ys) := by
    rw [ev_compIf]
    cases evI F ρ c src <;> rfl
  rw [← e1] at h5
  exact h5
end

mutual
theorem main_E (G : GF prog w hb cO T F n) (hA : Room A n) : ∀ e : E, PE prog w hb cO T F A e
  | .none => fun Γ env ρ c X O s p h S =>
    have h1 : EOk prog w hb cO A X false s (eval (.Constant .none 0 p.pos) env) (.ok .none) := eok_const (fun Q E hQ => wpAny_Constant_none (hQ s (.refl _) _ .none)) (by intro ds h; cases h)
    pe_mk hA.2.2 S h1 (h1.tok rfl) rfl rfl
  | .bool b => fun Γ env ρ c X O s p h S =>
    have h1 : EOk prog w hb cO A X false s (eval (.Constant (.bool b) 0 p.pos) env) (.ok (.bool b)) := eok_const (fun Q E hQ => wpAny_Constant_bool (hQ s (.refl _) _ (.bool b))) (by intro ds h; cases h)
    pe_mk hA.2.2 S h1 (h1.tok rfl) rfl rfl
  | .int i => fun Γ env ρ c X O s p h S =>
    have h1 : EOk prog w hb cO A X false s (eval (.Constant (.int i) 0 p.pos) env) (.ok (.int i)) := eok_const (fun Q E hQ => wpAny_Constant_int (hQ _ (.toks _ _) _ (.int i _))) (by intro ds h; cases h)
    pe_mk hA.2.2 S h1 (h1.tok rfl) rfl rfl
  | .str x => fun Γ env ρ c X O s p h S =>
    have hl := of_decide_eq_true (and_l h)
    have h1 : EOk prog w hb cO A X false s (eval (.Constant (.str x) 0 p.pos) env) (.ok (.str x)) := eok_const (fun Q E hQ => wpAny_Constant_str (hQ _ (.toks _ _) _ (.str x _ (and_r h) (by rw [LIM_eq]; omega)))) (by intro ds h; cases h)
    pe_mk hA.2.2 S h1 (h1.tok rfl) rfl rfl
  | .var i => fun Γ env ρ c X O s p h S =>
    have h1 : EOk prog w hb cO A X false s (eval (.Name (Γ.nm i) p.pos) env) (getV ρ i) := eok_var S h
    pe_mk hA.2.2 S h1 (h1.tok rfl) rfl rfl
  | .own i => fun Γ env ρ c X O s p h S => ⟨fun h => absurd rfl h, fun _ h => absurd rfl h, fun h => absurd rfl h, sok_own S h⟩
  | .it3 i => fun Γ env ρ c X O s p h S => ff_ne h
  | .cv => fun Γ env ρ c X O s p h S =>
    have h1 := eok_cv (prog := prog) (w := w) (cO := cO) (F := F) (pos := p.pos) S h
    pe_mk hA.2.2 S h1 (h1.tok rfl) rfl rfl
  | .gl k => fun Γ env ρ c X O s p h S => ff_ne h
  | .bin o l r => fun Γ env ρ c X O s p h S =>
    have h1 := eok_bin (o := o) (pos := p.pos) S (main_E G hA l Γ env ρ c X O s _ (and_l h) S).2.2.2 (fun s' n => (main_E G hA r Γ env ρ c X O s' _ (and_r h) (S.nx n)).2.2.2)
    have h2 : EOk prog w hb cO A X (freshE (.bin o l r)) s (eval (rb T Γ (.bin o l r) p) env) (ev F ρ c (.bin o l r)) := fun a Q E b c => h1 a Q E (fun v s' d e n q nl => b v s' d e n q fun _ => nl rfl) c
    pe_mk hA.2.2 S h2 (h1.tok rfl) rfl rfl
  | .neg e => fun Γ env ρ c X O s p h S =>
    have h1 := eok_neg (pos := p.pos) (main_E G hA e Γ env ρ c X O s _ h S).1
    pe_mk hA.2.2 S h1 (h1.tok rfl) rfl rfl
  | .not e => fun Γ env ρ c X O s p h S =>
    have he := main_E G hA e Γ env ρ c X O s _ h S
    pe_mk hA.2.2 S (eok_not (pos := p.pos) he.1) (tok_not he.2.1) rfl rfl
  | .cmp o l r => fun Γ env ρ c X O s p h S =>
    have h1 := eok_cmp (op := cmpOf o) (pos := p.pos) (f := cmpD o) rb_noSet (main_E G hA l Γ env ρ c X O s _ (and_l h) S).2.2.2 (fun s' n => (main_E G hA r Γ env ρ c X O s' _ (and_r h) (S.nx n)).2.2.2) cmpD_ne
        (fun a b s₁ da db d Q E ra rb hd hq => op_cmp (room_units hA) ra rb hd hq)
    pe_mk hA.2.2 S h1.1 (h1.2 _) rfl rfl
  | .isC pp e k => fun Γ env ρ c X O s p h S =>
    have h1 := eok_cmp (op := isOf pp) (pos := p.pos) (f := isCD pp) rb_noSet (main_E G hA e Γ env ρ c X O s _ (and_l h) S).1.sok (fun s' n => (main_E G hA k Γ env ρ c X O s' _ (and_r h) (S.nx n)).1.sok) isCD_ne
        (fun a b s₁ da db d Q E ra rb hd hq => op_isC pp ra rb hd hq)
    pe_mk hA.2.2 S h1.1 (h1.2 _) rfl rfl
  | .isT pp e nn => fun Γ env ρ c X O s p h S =>
    have h3 : nn = "int" ∨ nn = "bool" := by
      have := and_l (and_r (and_r h))
      rw [Bool.or_eq_true, beq_iff_eq, beq_iff_eq] at this
      exact this
    have h5 := eok_isT (pl := (kid (kid p 0) 0).pos) (pr := (kid p 1).pos) (pos := p.pos) (cp := (kid p 0).pos) (p := pp) G S (and_l h) (and_l (and_r h)) h3 (by rw [List.all_cons, rb_noStar]; rfl) (main_E G hA e Γ env ρ c X O s _ (and_r (and_r (and_r h))) S).1
    pe_mk hA.2.2 S h5.1 (h5.2 _) rfl rfl
  | .bop q l r => fun Γ env ρ c X O s p h S =>
    have e1 := main_E G hA l Γ env ρ c X O s _ (and_l h) S
    have h1 := pe_bop h ⟨e1.1, e1.2.1⟩ fun p' h' s' n => have e2 := main_E G hA r Γ env ρ c X O s' p' h' (S.nx n); ⟨e2.1, e2.2.1⟩
    pe_mk hA.2.2 S h1.1 h1.2 rfl rfl
  | .ite t a b => fun Γ env ρ c X O s p h S =>
    have e1 := main_E G hA t Γ env ρ c X O s _ (and_l h) S
    have e2 := fun s' (n : Nx hb s s') => main_E G hA a Γ env ρ c X O s' _ (and_l (and_r h)) (S.nx n)
    have e3 := fun s' (n : Nx hb s s') => main_E G hA b Γ env ρ c X O s' _ (and_r (and_r h)) (S.nx n)
    pe_mk hA.2.2 S (eok_ite (pos := p.pos) e1.2.1 (fun s' n => (e2 s' n).1) fun s' n => (e3 s' n).1) (tok_ite e1.2.1 (fun s' n => (e2 s' n).2.1) fun s' n => (e3 s' n).2.1) rfl rfl
  | .call f args => fun Γ env ρ c X O s p h S =>
    have h1 := eok_call (fp := (kid p 0).pos) (pos := p.pos) G hA S (getD_some (and_l h)) (and_l (and_r h)) rbL_noStar (args_ne (and_l (and_r (and_r h)))) (main_L G hA args Γ env ρ c X O s _ (and_r (and_r (and_r h))) S).1
    pe_mk hA.2.2 S h1 (h1.tok rfl) rfl rfl
  | .len e => fun Γ env ρ c X O s p h S =>
    have h3 := eok_un' (fr := false) (k := fun v => call (.builtin "len") [v]) (m' := eval (rb T Γ (.len e) p) env) (f := lenD) (main_E G hA e Γ env ρ c X O s _ (and_r h) S).2.2.2 lenD_ne (fun Q E hh => call1_blt S (and_l h) G.len (by rw [List.all_cons, rb_noStar]; rfl) hh)
        (fun v s₁ da d Q E n1 r1 hd hq => op_len (hb := hb) r1 hd (fun v' s' n r => hq v' s' n r fun h => nl_no h))
    pe_mk hA.2.2 S h3 (h3.tok rfl) rfl rfl
  | .abs e => fun Γ env ρ c X O s p h S =>
    have h3 := eok_un' (fr := false) (k := fun v => call (.builtin "abs") [v]) (m' := eval (rb T Γ (.abs e) p) env) (f := absD) (main_E G hA e Γ env ρ c X O s _ (and_r h) S).1.sok absD_ne (fun Q E hh => call1_blt S (and_l h) G.abs (by rw [List.all_cons, rb_noStar]; rfl) hh)
        (fun v s₁ da d Q E n1 r1 hd hq => op_abs (hb := hb) r1 hd (fun v' s' n r => hq v' s' n r fun h => nl_no h))
    pe_mk hA.2.2 S h3 (h3.tok rfl) rfl rfl
  | .min2 x y => fun Γ env ρ c X O s p h S =>
    have h4 := eok_min2 (fp := (kid p 0).pos) (pos := p.pos) G hA S (and_l h) (by rw [List.all_cons, List.all_cons, rb_noStar, rb_noStar]; rfl) (main_E G hA x Γ env ρ c X O s _ (and_l (and_r h)) S).1 fun s' n => (main_E G hA y Γ env ρ c X O s' _ (and_r (and_r h)) (S.nx n)).1
    pe_mk hA.2.2 S h4 (h4.tok rfl) rfl rfl
  | .sum e => fun Γ env ρ c X O s p h S => ff_ne h
  | .lcopy e => fun Γ env ρ c X O s p h S =>
    have h3 := eok_un' (fr := true) (k := fun v => call (.type "list") [v]) (m' := eval (rb T Γ (.lcopy e) p) env) (f := lcopyD) (main_E G hA e Γ env ρ c X O s _ (and_r h) S).2.2.2 lcopyD_ne (fun Q E hh => call1_typ S (and_l h) G.list (by rw [List.all_cons, rb_noStar]; rfl) hh)
        (fun v s₁ da d Q E n1 r1 hd hq => op_lcopy (hb := hb) ((S.nx n1).xin) r1 hd (fun v' s' n r nl => hq v' s' n r fun _ => nl))
    pe_mk hA.2.2 S h3 (h3.tok rfl) rfl rfl
  | .mkdict e => fun Γ env ρ c X O s p h S =>
    have h3 := eok_un' (fr := false) (k := fun v => call (.type "dict") [v]) (m' := eval (rb T Γ (.mkdict e) p) env) (f := mkdictD) (main_E G hA e Γ env ρ c X O s _ (and_r h) S).2.2.2 mkdictD_ne (fun Q E hh => call1_typ S (and_l h) G.dict (by rw [List.all_cons, rb_noStar]; rfl) hh)
        (fun v s₁ da d Q E n1 r1 hd hq => op_mkdict (hb := hb) hA.2.2 ((S.nx n1).xin) G.nolim ((S.nx n1).stays) r1 hd (fun v' s' n r => hq v' s' n r fun h => nl_no h))
    pe_mk hA.2.2 S h3 (h3.tok rfl) rfl rfl
  | .litems e => fun Γ env ρ c X O s p h S => ff_ne h
  | .sorted e => fun Γ env ρ c X O s p h S => ff_ne h
  | .text e => fun Γ env ρ c X O s p h S =>
    have h3 := eok_un' (fr := false) (k := fun v => call (.type "str") [v]) (m' := eval (rb T Γ (.text e) p) env) (f := textD) (main_E G hA e Γ env ρ c X O s _ (and_r h) S).1.sok textD_ne (fun Q E hh => call1_typ S (and_l h) G.str (by rw [List.all_cons, rb_noStar]; rfl) hh)
        (fun v s₁ da d Q E n1 r1 hd hq => op_text (hb := hb) r1 hd (fun v' s' n r => hq v' s' n r fun h => nl_no h))
    pe_mk hA.2.2 S h3 (h3.tok rfl) rfl rfl
  | .range e => fun Γ env ρ c X O s p h S => ⟨fun h => absurd rfl h, fun _ h => absurd rfl h, iok_range G hA S (and_l h) (by rw [List.all_cons, rb_noStar]; rfl) (main_E G hA e Γ env ρ c X O s _ (and_r h) S).1, fun h => absurd rfl h⟩
  | .values e => fun Γ env ρ c X O s p h S => ff_ne h
  | .idx a i => fun Γ env ρ c X O s p h S =>
    have h4 := eok_idx (pos := p.pos) rb_sub (main_E G hA a Γ env ρ c X O s _ (and_l h) S).2.2.2 fun s' n => (main_E G hA i Γ env ρ c X O s' _ (and_r h) (S.nx n)).1
    pe_mk hA.2.2 S h4 (h4.tok rfl) rfl rfl
  | .sl a lo hi => fun Γ env ρ c X O s p h S =>
    have h4 := eok_sl (sp := (kid p 1).pos) (pos := p.pos) S (main_E G hA a Γ env ρ c X O s _ (and_l h) S).2.2.2 (fun s' n => (main_E G hA lo Γ env ρ c X O s' _ (and_l (and_r h)) (S.nx n)).1) fun s' n => (main_E G hA hi Γ env ρ c X O s' _ (and_r (and_r h)) (S.nx n)).1
    pe_mk hA.2.2 S h4 (h4.tok rfl) rfl rfl
  | .slTo a hi => fun Γ env ρ c X O s p h S =>
    have h4 := eok_slTo (sp := (kid p 1).pos) (pos := p.pos) S (main_E G hA a Γ env ρ c X O s _ (and_l h) S).2.2.2 fun s' n => (main_E G hA hi Γ env ρ c X O s' _ (and_r h) (S.nx n)).1
    pe_mk hA.2.2 S h4 (h4.tok rfl) rfl rfl
  | .slFrom a lo => fun Γ env ρ c X O s p h S =>
    have h4 := eok_slFrom (sp := (kid p 1).pos) (pos := p.pos) S (main_E G hA a Γ env ρ c X O s _ (and_l h) S).2.2.2 fun s' n => (main_E G hA lo Γ env ρ c X O s' _ (and_r h) (S.nx n)).1
    pe_mk hA.2.2 S h4 (h4.tok rfl) rfl rfl
  | .tup es => fun Γ env ρ c X O s p h S =>
    have hl := main_L G hA es Γ env ρ c X O s _ (and_r h) S
    have h4 := eok_tup (k := 0) (pos := p.pos) S rbL_noStar (fun ds e => by rw [hl.2 ds e]; exact of_decide_eq_true (and_l h)) hl.1
    pe_mk hA.2.2 S h4 (h4.tok rfl) rfl rfl
  | .lst es => fun Γ env ρ c X O s p h S =>
    have hl := main_L G hA es Γ env ρ c X O s _ (and_r h) S
    have h4 := eok_lst (pos := p.pos) S rbL_noStar (fun ds e => by rw [hl.2 ds e]; exact of_decide_eq_true (and_l h)) hl.1
    pe_mk hA.2.2 S h4 (h4.tok rfl) rfl rfl
  | .dict0 => fun Γ env ρ c X O s p h S => ff_ne h
  | .comp elt src => fun Γ env ρ c X O s p h S =>
    have h5 := pe_comp (elt := elt) S (and_l h) (main_E G hA src Γ env ρ c X O s _ (and_r (and_r h)) S).2.2.1 fun cl C D s₃ d S' => (main_E G hA elt _ _ ρ (some d) (X3 X C D) O s₃ _ (and_l (and_r h)) S').1
    pe_mk hA.2.2 S h5 (h5.tok rfl) rfl rfl
  | .compIf elt cond src => fun Γ env ρ c X O s p h S =>
    have h5 := pe_compIf (elt := elt) (cond := cond) S (and_l h) (main_E G hA src Γ env ρ c X O s _ (and_l (and_r (and_r h))) S).2.2.1 (fun cl C D s₃ d S' => (main_E G hA elt _ _ ρ (some d) (X3 X C D) O s₃ _ (and_l (and_r h)) S').1)
      fun cl C D s₃ d S' => (main_E G hA cond _ _ ρ (some d) (X3 X C D) O s₃ _ (and_r (and_r (and_r h))) S').2.1
    pe_mk hA.2.2 S h5 (h5.tok rfl) rfl rfl
  | .dcomp k v src => fun Γ env ρ c X O s p h S => ff_ne h
  | .gen f elt src => fun Γ env ρ c X O s p h S => ff_ne h
theorem main_L (G : GF prog w hb cO T F n) (hA : Room A n) : ∀ es : List E, PL prog w hb cO T F A es
  | [] => fun Γ env ρ c X O s ps h S => ⟨LOk.nil, fun ds e => by cases e; rfl⟩
  | e :: r => fun Γ env ρ c X O s ps h S => by
    refine ⟨LOk.cons (main_E G hA e Γ env ρ c X O s _ (and_l h) S).1 fun s' n => (main_L G hA r Γ env ρ c X O s' _ (and_r h) (S.nx n)).1, fun ds e1 => ?_⟩
    obtain ⟨d, _, e1⟩ := bind_eq_ok e1
    obtain ⟨ds', e2, e1⟩ := bind_eq_ok e1
    cases e1
    exact congrArg (· + 1) ((main_L G hA r Γ env ρ c X O s _ (and_r h) S).2 ds' e2)
end
end
end Mine

-- M20
namespace Mine
open PySem PySem.Calls PyProof.Rows

section
variable {prog : Program} {w : World} {h : Heap} {P P' : Addr → Prop}

theorem pairs_fun {es : List DictEntry} {k1 k2 : List (Int × Value)} (h1 : Pairs (intKind prog w) es k1) (h2 : Pairs (intKind prog w) es k2) : k1 = k2 := by
  induction h1 generalizing k2 with
  | nil => cases h2; rfl
  | cons a a' _ ih =>
    cases h2 with
    | cons b b' r2 =>
      rw [ih r2]
      congr 1
      exact Prod.ext (Value.isInt_inj _ _ _ a b) (a'.symm.trans b')

theorem dictOf_fun {a : Addr} {k1 k2 : List (Int × Value)} (h1 : h.DictOf (intKind prog w) a k1) (h2 : h.DictOf (intKind prog w) a k2) : k1 = k2 := by
  obtain ⟨o, es, ep, e1, _, d1, _, p1, _⟩ := h1
  obtain ⟨o', es', ep', e2, _, d2, _, p2, _⟩ := h2
  rw [e1] at e2; cases e2
  rw [d1] at d2; cases d2
  exact pairs_fun p1 p2

theorem dictOf_cls {a : Addr} {k1 : List (Int × Value)} {o : Obj} (h1 : h.DictOf (intKind prog w) a k1) (e : h.get? a = some o) : o.cls = .type "dict" := by
  obtain ⟨o', es, ep, e1, c, _⟩ := h1
  rw [e1] at e; cases e
  exact c.1

theorem ne_lt : Value.type "list" ≠ .type "tuple" := by decide
theorem ne_ld : Value.type "list" ≠ .type "dict" := by decide
theorem ne_td : Value.type "tuple" ≠ .type "dict" := by decide
theorem Rp.fun_ind : (∀ {v : Value} {d : PyData}, Rp prog w h P v d → ∀ {d' : PyData}, Rp prog w h P' v d' → d = d') ∧ (∀ {vs : List Value} {ds : List PyData}, RpL prog w h P vs ds → ∀ {ds' : List PyData}, RpL prog w h P' vs ds' → ds = ds') := by
  refine Rp.ind (M := fun v d => ∀ {d' : PyData}, Rp prog w h P' v d' → d = d') (L := fun vs ds => ∀ {ds' : List PyData}, RpL prog w h P' vs ds' → ds = ds')
    (fun q => by cases q with | none => rfl) (fun b _ q => by cases q with | bool _ => rfl) (fun i t _ q => by cases q with | int _ _ => rfl) (fun x t _ _ _ q => by cases q with | str _ _ _ _ => rfl) (fun p g l _ r _ q => ?_) (fun p g l _ r _ q => ?_) (fun p _ g l _ r _ q => ?_) (fun q => by cases q with | nil => rfl) (fun _ _ r rs _ q => ?_)
  · cases q with
    | list p' g' l' r' => rw [g] at g'; cases g'; rw [r r']
    | tuple p' g' l' r' => rw [g] at g'; exact absurd (congrArg Obj.cls (Option.some.inj g')) ne_lt
    | dict p' q' g' l' r' => exact absurd (dictOf_cls g' g) ne_ld
  · cases q with
    | tuple p' g' l' r' => rw [g] at g'; cases g'; rw [r r']
    | list p' g' l' r' => rw [g] at g'; exact absurd (congrArg Obj.cls (Option.some.inj g')).symm ne_lt
    | dict p' q' g' l' r' => exact absurd (dictOf_cls g' g) ne_td
  · cases q with
    | list p' g' l' r' => exact absurd (dictOf_cls g g') ne_ld
    | tuple p' g' l' r' => exact absurd (dictOf_cls g g') ne_td
    | dict p' q' g' l' r' =>
      have := dictOf_fun g g'
      subst this
      rw [r r']
  · cases q with
    | cons a' r' => rw [r a', rs r']
theorem Rp.fun {v : Value} {d d' : PyData} (r : Rp prog w h P v d) (q : Rp prog w h P' v d') : d = d' := Rp.fun_ind.1 r q

theorem sizeOf_mem_zip : ∀ (ks : List Int) (ds : List PyData), ks.length = ds.length → ∀ d ∈ ds, sizeOf d < sizeOf (zipD ks ds)
  | [], [], _, d, hd => by simp at hd
  | k :: ks, d' :: ds, hl, d, hd => by
    simp only [zipD, List.cons.sizeOf_spec, Prod.mk.sizeOf_spec]
    rcases List.mem_cons.mp hd with rfl | hd
    · omega
    · have := sizeOf_mem_zip ks ds (by simpa using hl) d hd
      omega

theorem RpL.avoid {a : Addr} {D : PyData} (hD : Rp prog w h P' (.ref a) D) {vs : List Value} {ds : List PyData} (r : RpL prog w h P vs ds) (hs : ∀ d ∈ ds, sizeOf d < sizeOf D) : RpL prog w h (fun b => P b ∧ b ≠ a) vs ds := by
  have hne : ∀ {b : Addr} {d : PyData}, Rp prog w h P (.ref b) d → sizeOf d < sizeOf D → b ≠ a := fun r hs q => by
    subst q
    rw [Rp.fun hD r] at hs
    exact Nat.lt_irrefl _ hs
  refine (Rp.ind (M := fun v d => sizeOf d < sizeOf D → Rp prog w h (fun b => P b ∧ b ≠ a) v d) (L := fun vs ds => (∀ d ∈ ds, sizeOf d < sizeOf D) → RpL prog w h (fun b => P b ∧ b ≠ a) vs ds)
    (fun _ => .none) (fun b _ => .bool b) (fun i t _ => .int i t) (fun x t h1 h2 _ => .str x t h1 h2)
    (fun p g l r q hs => .list ⟨p, hne (.list p g l r) hs⟩ g l (q fun d hd => ?_)) (fun p g l r q hs => .tuple ⟨p, hne (.tuple p g l r) hs⟩ g l (q fun d hd => ?_))
    (fun p z g l r q hs => .dict ⟨p, hne (.dict p z g l r) hs⟩ z g l (q fun d hd => ?_)) (fun _ => .nil) (fun _ _ r rs hs => .cons (r (hs _ (.head _))) (rs fun d hd => hs d (.tail _ hd)))).2 r hs
  · have := List.sizeOf_lt_of_mem hd
    simp only [PyData.list.sizeOf_spec] at hs
    omega
  · have := List.sizeOf_lt_of_mem hd
    simp only [PyData.tuple.sizeOf_spec] at hs
    omega
  · have e := r.length
    rw [List.length_map] at e
    have := sizeOf_mem_zip (List.map (·.1) _) _ ((List.length_map _).trans e) d hd
    simp only [PyData.dict.sizeOf_spec] at hs
    omega

theorem Rp.inside {a : Addr} {vs : List Value} {n : Nat} {ds : List PyData} (r : Rp prog w h P (.ref a) (.list ds)) (g : h.get? a = some { cls := .type "list", data := .seq (List.toArray vs) n }) :
    ds.length ≤ LIM ∧ RpL prog w h (fun b => P b ∧ b ≠ a) vs ds := by
  have r' := r
  cases r with
  | list p g' l q =>
    rw [g] at g'; cases g'
    refine ⟨l, RpL.avoid r' q fun d hd => ?_⟩
    have := List.sizeOf_lt_of_mem hd
    simp only [PyData.list.sizeOf_spec]
    omega
end
end Mine

-- M21
namespace Mine
open PySem PySem.Calls PyProof.Rows

noncomputable def Own (ρ : Rho) (o : Nat → Addr) (a : Addr) : Prop := ∃ i ds, ρ[i]? = some (.own ds) ∧ o i = a
noncomputable def NN (env : Env) (ρ : Rho) (o : Nat → Addr) (a : Addr) : Prop := a = env.locals ∨ (∃ y, env.cells.lookup y = some a) ∨ Own ρ o a
noncomputable def XX (Xc G : Addr → Prop) (env : Env) (ρ : Rho) (o : Nat → Addr) (a : Addr) : Prop := Xc a ∨ G a ∨ NN env ρ o a

section
variable (prog : Program) (w : World)
noncomputable def VB (h : Heap) (X : Addr → Prop) (o : Nat → Addr) (i : Nat) : VA → Value → Prop
  | .un, _ => True
  | .v d, v => Rp prog w h (fun a => ¬ X a) v d
  | .own _, v => v = .ref (o i)
  | .i3 k, v => ∃ t vs n tok, v = .ref t ∧ h.get? t = some { cls := .type "tuple", data := .seq (List.toArray vs) n } ∧ ¬ X t ∧ vs.length = 4 ∧ vs[3]? = some (.int k tok)

structure SS (hb : Heap) (A : Around) (Γ : Sc) (env : Env) (Xc : Addr → Prop) (s₀ : Shared) (G : Addr → Prop) (ρ : Rho) (o : Nat → Addr) (s : Shared) : Prop where
  kind : env.scope.kind = .function
  gl : env.globals = mainGlobals
  bl : env.builtins = builtinsNs
  scope : env.scope = Γ.fs
  cs : Γ.cs = none
  nodup : Γ.vars.Nodup
  frame : env.frame = some env.locals
  cel : ∀ y, Γ.fs.names.lookup y = some .cell → ∃ c, env.cells.lookup y = some c
  apart : env.cells.Pairwise fun x y => x.2 ≠ y.2
  stays : hb.StaysIn s₀.heap
  stk : Stk hb A s.heap
  lin : env.locals ∈ frs A
  top : ∃ outer, A.frames = some (env :: outer)
  fra : ∀ b ∈ frs A, b = env.locals ∨ s₀.heap.get? b ≠ none
  bare : AllBare s.gens
  os : s.os = s₀.os
  kp : Kp hb s₀.heap s.heap
  xc : XIn Xc s₀.heap
  xcn : ∀ a, Xc a → hb.get? a = none
  lnew : s₀.heap.get? env.locals = none
  ns : ∃ m, s.heap.Ns env.locals m
  cellv : ∀ y c, env.cells.lookup y = some c → s₀.heap.get? c = none ∧ ∃ v, s.heap.IsCell c v
  gh : ∀ a, G a → s₀.heap.get? a = none ∧ s.heap.get? a ≠ none
  own : ∀ i ds, ρ[i]? = some (.own ds) → s₀.heap.get? (o i) = none ∧ ∃ vs n, s.heap.get? (o i) = some { cls := .type "list", data := .seq (List.toArray vs) n } ∧ ds.length ≤ LIM ∧ RpL prog w s.heap (fun a => ¬ XX Xc G env ρ o a) vs ds
  inj : ∀ i j ds es, ρ[i]? = some (.own ds) → ρ[j]? = some (.own es) → o i = o j → i = j
  vars : ∀ i x va, Γ.isVar i x = true → ρ[i]? = some va → va ≠ .un → ∃ v, ValOf env s.heap x v ∧ VB prog w s.heap (XX Xc G env ρ o) o i va v
end

section
variable {prog : Program} {w : World} {hb : Heap} {A : Around} {Γ : Sc} {env : Env} {Xc G : Addr → Prop} {s₀ : Shared} {ρ : Rho} {o : Nat → Addr} {s s' : Shared}

theorem SS.newS (S : SS prog w hb A Γ env Xc s₀ G ρ o s) {a : Addr} (h : s.heap.get? a = none) : s₀.heap.get? a = none := S.kp.none h
theorem SS.newB (S : SS prog w hb A Γ env Xc s₀ G ρ o s) {a : Addr} (h : s₀.heap.get? a = none) : hb.get? a = none := by
  cases q : hb.get? a with
  | none => rfl
  | some o => rw [S.stays a o q] at h; cases h
theorem SS.nn_new (S : SS prog w hb A Γ env Xc s₀ G ρ o s) {a : Addr} (h : NN env ρ o a) : s₀.heap.get? a = none := by
  rcases h with rfl | ⟨y, h⟩ | ⟨i, ds, h, rfl⟩
  · exact S.lnew
  · exact (S.cellv y a h).1
  · exact (S.own i ds h).1
theorem SS.nn_in (S : SS prog w hb A Γ env Xc s₀ G ρ o s) {a : Addr} (h : NN env ρ o a) : s.heap.get? a ≠ none := by
  rcases h with rfl | ⟨y, h⟩ | ⟨i, ds, h, rfl⟩
  · obtain ⟨m, q⟩ := S.ns
    obtain ⟨o, e, _⟩ := ns_not_fields q
    rw [e]; simp
  · obtain ⟨v, o, e, _⟩ := (S.cellv y a h).2
    rw [e]; simp
  · obtain ⟨vs, n, e, _⟩ := (S.own i ds h).2
    rw [e]; simp
theorem SS.xx_in (S : SS prog w hb A Γ env Xc s₀ G ρ o s) : XIn (XX Xc G env ρ o) s.heap := by
  rintro a (h | h | h)
  · exact S.kp.some (S.xc a h)
  · exact (S.gh a h).2
  · exact S.nn_in h
theorem SS.xx_hb (S : SS prog w hb A Γ env Xc s₀ G ρ o s) (a : Addr) (h : XX Xc G env ρ o a) : hb.get? a = none := by
  rcases h with h | h | h
  · exact S.xcn a h
  · exact S.newB (S.gh a h).1
  · exact S.newB (S.nn_new h)

theorem SS.se (S : SS prog w hb A Γ env Xc s₀ G ρ o s) : SE prog w hb A Γ env ρ none (XX Xc G env ρ o) (Own ρ o) s where
  kind := S.kind
  gl := S.gl
  bl := S.bl
  kd := fun x h => by
    unfold Sc.kd at h
    rw [S.cs] at h
    unfold Env.kindOf
    rw [S.scope]; exact h
  fs := fun _ => S.scope
  stays := S.kp.stays S.stays
  stk := S.stk
  bare := S.bare
  xin := S.xx_in
  xnew := S.xx_hb
  ox := fun a h => .inr (.inr (.inr (.inr h)))
  cel := fun _ => S.cel
  vars := fun i x va h1 h2 h3 => by
    obtain ⟨v, q1, q2⟩ := S.vars i x va h1 h2 h3
    refine ⟨v, q1, ?_⟩
    cases va with
    | un => exact absurd rfl h3
    | v d => exact q2
    | own ds =>
      have q2' : v = .ref (o i) := q2
      subst q2'
      obtain ⟨_, vs, n, g, l, r⟩ := S.own i ds h2
      exact ⟨_, vs, n, rfl, ⟨i, ds, h2, rfl⟩, g, l, r⟩
    | i3 k =>
      obtain ⟨t, vs, n, tok, e, g, _, r⟩ := q2
      exact ⟨t, vs, n, tok, e, g, r⟩
  cvar := fun _ _ _ h => by cases h

theorem VB.to {h h' : Heap} {X X' : Addr → Prop} {i : Nat} {va : VA} {v : Value} (hX : ∀ a, ¬ X a → h.get? a ≠ none → ¬ X' a) (hk : ∀ a o, ¬ X a → h.get? a = some o → DtC o.cls → h'.get? a = some o) (r : VB prog w h X o i va v) : VB prog w h' X' o i va v := by
  cases va with
  | un => trivial
  | v d => exact Rp.to (fun a q => hX a q.1 q.2.2) (fun a o q e z => hk a o q.1 e z) (Rp.there r)
  | own ds => exact r
  | i3 k =>
    obtain ⟨t, vs, n, tok, e, g, x, r⟩ := r
    exact ⟨t, vs, n, tok, e, hk t _ x g (.inr (.inl rfl)), hX t x (by rw [g]; simp), r⟩

theorem SS.nx (S : SS prog w hb A Γ env Xc s₀ G ρ o s) (n : Nx hb s s') : SS prog w hb A Γ env Xc s₀ G ρ o s' :=
  { S with
    stk := S.stk.kp n.kp
    bare := n.gens S.bare
    os := n.os.trans S.os
    kp := S.kp.trans n.kp
    ns := by obtain ⟨m, q⟩ := S.ns; exact ⟨m, n.kp.ns q⟩
    cellv := fun y c h => by
      obtain ⟨q, v, r⟩ := S.cellv y c h
      exact ⟨q, v, n.kp.cell r⟩
    gh := fun a h => ⟨(S.gh a h).1, n.kp.some (S.gh a h).2⟩
    own := fun i ds h => by
      obtain ⟨q, vs, m, g, l, r⟩ := S.own i ds h
      exact ⟨q, vs, m, n.kp.obj _ _ g ne_list, l, r.kp n.kp⟩
    vars := fun i x va h1 h2 h3 => by
      obtain ⟨v, q1, q2⟩ := S.vars i x va h1 h2 h3
      exact ⟨v, q1.kp n.kp, q2.to (fun _ q _ => q) fun a o _ e z => n.kp.obj a o e z.ne⟩ }

theorem SS.ghost {G' : Addr → Prop} (S : SS prog w hb A Γ env Xc s₀ G ρ o s) (n : Nx hb s s') (hG : ∀ a, G' a → G a ∨ (s.heap.get? a = none ∧ s'.heap.get? a ≠ none)) : SS prog w hb A Γ env Xc s₀ G' ρ o s' := by
  have S' := S.nx n
  have hX : ∀ a, ¬ XX Xc G env ρ o a → s.heap.get? a ≠ none → ¬ XX Xc G' env ρ o a := by
    rintro a q e (h | h | h)
    · exact q (.inl h)
    · rcases hG a h with h | h
      · exact q (.inr (.inl h))
      · exact e h.1
    · exact q (.inr (.inr h))
  exact
  { S' with
    gh := fun a h => by
      rcases hG a h with h | h
      · exact S'.gh a h
      · exact ⟨S.newS h.1, h.2⟩
    own := fun i ds h => by
      obtain ⟨q, vs, m, g, l, r⟩ := S.own i ds h
      exact ⟨q, vs, m, n.kp.obj _ _ g ne_list, l, r.there.to (fun a q => hX a q.1 q.2.2) fun a o _ e z => n.kp.obj a o e z.ne⟩
    vars := fun i x va h1 h2 h3 => by
      obtain ⟨v, q1, q2⟩ := S.vars i x va h1 h2 h3
      exact ⟨v, q1.kp n.kp, q2.to hX fun a o _ e z => n.kp.obj a o e z.ne⟩ }

theorem isVar_inj (hn : Γ.vars.Nodup) {i j : Nat} {x : Str} (h1 : Γ.isVar i x = true) (h2 : Γ.isVar j x = true) : i = j := by
  simp only [Sc.isVar, Bool.and_eq_true, beq_iff_eq] at h1 h2
  obtain ⟨⟨h1, _⟩, _⟩ := h1
  obtain ⟨⟨h2, _⟩, _⟩ := h2
  obtain ⟨l1, e1⟩ := List.getElem?_eq_some_iff.mp h1
  obtain ⟨l2, e2⟩ := List.getElem?_eq_some_iff.mp h2
  exact (List.getElem_inj hn).mp (e1.trans e2.symm)

structure Stored (hb : Heap) (env : Env) (x : Str) (v : Value) (s s' : Shared) : Prop where
  os : s'.os = s.os
  gens : s'.gens = s.gens
  kp : ∃ a, (a = env.locals ∨ ∃ y, env.cells.lookup y = some a) ∧ KpB (fun b => b = a) hb s.heap s'.heap
  ns : ∃ m, s'.heap.Ns env.locals m
  fr : ∃ o, s'.heap.get? env.locals = some o ∧ Fr o
  cells : ∀ y c, env.cells.lookup y = some c → ∃ v, s'.heap.IsCell c v
  val : ValOf env s'.heap x v
  oth : ∀ y u, y ≠ x → ValOf env s.heap y u → ValOf env s'.heap y u
end
end Mine

-- M22
namespace Mine
open PySem PySem.Calls PyProof.Rows
open Sem (wp)

theorem nsSet_fr {M : Model} {A : Around} {E : Value → Shared → Prop} {s : Shared} {a : Addr} {m : Str → Option Value} {name : Str} {v : Value} {Q : Unit → Shared → Prop} (hn : s.heap.Ns a m) (hf : ∃ o, s.heap.get? a = some o ∧ Fr o)
    (h : ∀ h', h'.Ns a (fun x => if x = name then some v else m x) → Heap.SameBut a s.heap h' → (∃ o, h'.get? a = some o ∧ Fr o) → Q () { s with heap := h', toks := s.toks + 1 }) : wpAny M A (nsSet a name v) Q E s := by
  intro Γ p hΓ
  have key := Sem.wp_nsSet M Γ (fun _ _ _ => False) p s hn name v (fun _ _ s' => ∃ h', s' = { s with heap := h', toks := s.toks + 1 } ∧ h'.Ns a (fun x => if x = name then some v else m x) ∧ Heap.SameBut a s.heap h') fun h' h1 h2 => ⟨h', rfl, h1, h2⟩
  obtain ⟨o, ho, hfr⟩ := hf
  obtain ⟨o', es, ep, ho', hd, hk, hm⟩ := hn
  rw [ho] at ho'; cases ho'
  have hany : es.any (·.refKey) = false := by
    rw [Array.any_eq_false']; intro e he; obtain ⟨n, t, h⟩ := hk e he; simp [DictEntry.refKey, h]
  simp only [nsSet, strHash, Sem.wp_bind', Sem.wp_cmd_ask, Sem.wp_pure', Sem.wp_cmd_mkText] at key ⊢
  rw [Sem.wp_loadPart_of M Γ _ p { s with toks := s.toks + 1 } (o := o) _ ho] at key ⊢
  simp only [hd, aRefKeyMayBeTheName_eq, aRefKeyMayBeTheNameByArray, hany, Bool.and_false, Bool.false_eq_true, if_false, Sem.wp_cmd_updatePart] at key ⊢
  obtain ⟨k1, h', e1, h1, h2⟩ := key
  refine ⟨k1, ?_⟩
  have e2 := congrArg Shared.heap e1
  simp only at e2
  rw [e2]
  refine h h' h1 h2 ?_
  subst e2
  obtain ⟨c, d, dt, sl⟩ := o
  subst hd
  cases hi : es.findIdx? (·.key.isStr name) with
  | some i =>
    refine ⟨_, Heap.get?_update_self _ ho (by simp only [Obj.putName_eq, Obj.putNameByArray, hi]; rfl), ?_⟩
    simp only [Obj.putName_eq, Obj.putNameByArray, hi]
    exact ⟨hfr.1, fun vs q => by cases q⟩
  | none =>
    refine ⟨_, Heap.get?_update_self _ ho (by simp only [Obj.putName_eq, Obj.putNameByArray, hi]; rfl), ?_⟩
    simp only [Obj.putName_eq, Obj.putNameByArray, hi]
    exact ⟨hfr.1, fun vs q => by cases q⟩

theorem store_local {M : Model} {A : Around} {E : Value → Shared → Prop} {env : Env} {s : Shared} {x : Str} {v : Value} {m : Str → Option Value} {Q : Unit → Shared → Prop} (hk : env.scope.kind = .function) (hl : env.kindOf x = some .local) (hn : s.heap.Ns env.locals m) (hf : ∃ o, s.heap.get? env.locals = some o ∧ Fr o)
    (h : ∀ h', h'.Ns env.locals (fun y => if y = x then some v else m y) → Heap.SameBut env.locals s.heap h' → (∃ o, h'.get? env.locals = some o ∧ Fr o) → Q () { s with heap := h', toks := s.toks + 1 }) : wpAny M A (storeName env x v) Q E s := by
  unfold storeName
  simp only [hl, hk]
  exact nsSet_fr hn hf h

section
variable {M : Model} {A : Around} {E : Value → Shared → Prop} {env : Env} {s : Shared} {x : Str} {v : Value} {hb : Heap}
structure Here (env : Env) (s : Shared) : Prop where
  ns : ∃ m, s.heap.Ns env.locals m
  fr : ∃ o, s.heap.get? env.locals = some o ∧ Fr o
  cells : ∀ y c, env.cells.lookup y = some c → ∃ v, s.heap.IsCell c v
  apart : env.cells.Pairwise fun x y => x.2 ≠ y.2

theorem Here.ne (H : Here env s) {y : Str} {c : Addr} (h : env.cells.lookup y = some c) : env.locals ≠ c := by
  obtain ⟨v, o, e, d⟩ := H.cells y c h
  obtain ⟨m, o', es, ep, e', d', _⟩ := H.ns
  intro q
  rw [q, e] at e'; cases e'
  rw [d] at d'; cases d'

theorem store (hk : env.scope.kind = .function) (hx : env.kindOf x = some .local ∨ (env.kindOf x = some .cell ∧ ∃ c, env.cells.lookup x = some c)) (H : Here env s) {Q : Unit → Shared → Prop}
    (h : ∀ s', Stored hb env x v s s' → Q () s') : wpAny M A (storeName env x v) Q E s := by
  rcases hx with hl | ⟨hl, c, hc⟩
  · obtain ⟨m, hm⟩ := H.ns
    refine store_local hk hl hm H.fr fun h' hn' hs' hf' => h _ ⟨rfl, rfl, ⟨env.locals, .inl rfl, .strict fun b o q e => hs'.extBut b o q e⟩, ⟨_, hn'⟩, hf', ?_, .inl ⟨hl, _, hn', by simp⟩, ?_⟩
    · intro y c hc
      obtain ⟨v, q⟩ := H.cells y c hc
      exact ⟨v, q.sameBut hs' (Ne.symm (H.ne hc))⟩
    · rintro y u hy (⟨a, m', n, e⟩ | ⟨a, cc, e, n⟩)
      · refine .inl ⟨a, _, hn', ?_⟩
        have : m' y = m y := by
          obtain ⟨o1, es1, ep1, e1, d1, _, z1⟩ := n
          obtain ⟨o2, es2, ep2, e2, d2, _, z2⟩ := hm
          rw [e1] at e2; cases e2
          rw [d1] at d2; cases d2
          rw [← z1, ← z2]
        simp only [if_neg hy, ← this]
        exact e
      · exact .inr ⟨a, cc, e, n.sameBut hs' (Ne.symm (H.ne e))⟩
  · obtain ⟨v₀, hv₀⟩ := H.cells x c hc
    refine wpAny_storeName_cell hk hl hc hv₀ fun h' hc' hs' => h _ ⟨rfl, rfl, ⟨c, .inr ⟨x, hc⟩, .strict fun b o q e => hs'.extBut b o q e⟩, ?_, ?_, ?_, .inr ⟨hl, c, hc, hc'⟩, ?_⟩
    · obtain ⟨m, hm⟩ := H.ns
      exact ⟨m, hm.at' fun o e => hs'.extBut _ o (H.ne hc) e⟩
    · obtain ⟨o, e, f⟩ := H.fr
      exact ⟨o, hs'.extBut _ o (H.ne hc) e, f⟩
    · intro y c' hy
      by_cases q : c' = c
      · subst q; exact ⟨_, hc'⟩
      · obtain ⟨v, z⟩ := H.cells y c' hy
        exact ⟨v, z.sameBut hs' q⟩
    · rintro y u hy (⟨a, m', n, e⟩ | ⟨a, cc, e, n⟩)
      · exact .inl ⟨a, m', n.at' fun o e => hs'.extBut _ o (H.ne hc) e, e⟩
      · refine .inr ⟨a, cc, e, n.sameBut hs' fun q => hy ?_⟩
        subst q
        exact name_of_addr H.apart (mem_of_lookup e) (mem_of_lookup hc)
end
end Mine

-- M23
namespace Mine
open PySem PySem.Calls PyProof.Rows

section
variable {prog : Program} {w : World} {hb : Heap} {A : Around} {Γ : Sc} {env : Env} {Xc G : Addr → Prop} {s₀ : Shared} {ρ ρ' ρ'' : Rho} {o o' o'' : Nat → Addr} {s s' s'' : Shared}

theorem SS.here (S : SS prog w hb A Γ env Xc s₀ G ρ o s) : Here env s where
  ns := S.ns
  fr := S.stk.2 _ S.lin
  cells := fun y c h => (S.cellv y c h).2
  apart := S.apart

noncomputable def VP (prog : Program) (w : World) (G X : Addr → Prop) (O : Addr → Prop) (h : Heap) : VA → Value → Prop
  | .un, _ => True
  | .v d, v => Rp prog w h (fun a => ¬ X a) v d
  | .own ds, v => ∃ a vs n, v = .ref a ∧ G a ∧ ¬ O a ∧ h.get? a = some { cls := .type "list", data := .seq (List.toArray vs) n } ∧ ds.length ≤ LIM ∧ RpL prog w h (fun a => ¬ X a) vs ds
  | .i3 k, v => ∃ t vs n tok, v = .ref t ∧ h.get? t = some { cls := .type "tuple", data := .seq (List.toArray vs) n } ∧ ¬ X t ∧ vs.length = 4 ∧ vs[3]? = some (.int k tok)

theorem Stored.there (St : Stored hb env x v s s') {a : Addr} (h : s.heap.get? a ≠ none) : s'.heap.get? a ≠ none := by
  obtain ⟨a0, hw, k⟩ := St.kp
  by_cases q : a = a0
  · subst q
    rcases hw with rfl | ⟨y, hy⟩
    · obtain ⟨o, e, _⟩ := St.fr
      rw [e]; simp
    · obtain ⟨v, o, e, _⟩ := St.cells y a hy
      rw [e]; simp
  · cases z : s.heap.get? a with
    | none => exact absurd z h
    | some o =>
      obtain ⟨sl, z'⟩ := k.fr a o q z
      rw [z']; simp

theorem SS.put {i : Nat} {x : Str} {v : Value} {va : VA} (S : SS prog w hb A Γ env Xc s₀ G ρ o s) (hi : Γ.isVar i x = true) (St : Stored hb env x v s s') (hva : VP prog w G (XX Xc G env ρ o) (Own ρ o) s.heap va v) :
    ∃ o', SS prog w hb A Γ env Xc s₀ G (ρ.set i va) o' s' ∧ KpB (NN env ρ o) hb s.heap s'.heap ∧ ∀ a, Own (ρ.set i va) o' a → Own ρ o a ∨ (v = .ref a ∧ G a) := by
  obtain ⟨a0, hw, k⟩ := St.kp
  have hN : NN env ρ o a0 := by
    rcases hw with h | h
    · exact .inl h
    · exact .inr (.inl h)
  have hnew : s₀.heap.get? a0 = none := S.nn_new hN
  have up : ∀ b ob, ¬ XX Xc G env ρ o b → s.heap.get? b = some ob → DtC ob.cls → s'.heap.get? b = some ob := fun b ob q e z => k.obj b ob (fun z' => q (.inr (.inr (z' ▸ hN)))) e z.ne
  -- the new owner map
  obtain ⟨a, ha⟩ : ∃ a, ∀ ds, va = .own ds → ∃ vs n, v = .ref a ∧ G a ∧ ¬ Own ρ o a ∧ s.heap.get? a = some { cls := .type "list", data := .seq (List.toArray vs) n } ∧ ds.length ≤ LIM ∧ RpL prog w s.heap (fun a => ¬ XX Xc G env ρ o a) vs ds := by
    cases va with
    | own ds =>
      obtain ⟨a, r⟩ := hva
      exact ⟨a, fun ds' e => by cases e; exact r⟩
    | un => exact ⟨0, fun ds e => by cases e⟩
    | v d => exact ⟨0, fun ds e => by cases e⟩
    | i3 d => exact ⟨0, fun ds e => by cases e⟩
  have getj : ∀ j vj, (ρ.set i va)[j]? = some vj → (j = i ∧ vj = va) ∨ (j ≠ i ∧ ρ[j]? = some vj) := by
    intro j vj h
    by_cases q : j = i
    · subst q
      left
      refine ⟨rfl, ?_⟩
      rw [List.getElem?_set] at h
      simp only [if_true] at h
      split at h
      · exact (Option.some.inj h).symm
      · cases h
    · right
      rw [List.getElem?_set_ne (Ne.symm q)] at h
      exact ⟨q, h⟩
  refine ⟨fun j => if j = i then a else o j, ?_, ?_, ?_⟩
  rotate_left
  · exact ⟨fun b ob n => k.low b ob fun q => n (q ▸ hN), fun b ob n => k.ex b ob fun q => n (q ▸ hN), fun b ob n => k.fr b ob fun q => n (q ▸ hN)⟩
  · rintro b ⟨j, ds, h1, h2⟩
    rcases getj j _ h1 with ⟨rfl, e⟩ | ⟨q, e⟩
    · simp only [if_true] at h2
      subst h2
      obtain ⟨vs, n, hv, hg, _⟩ := ha ds e.symm
      exact .inr ⟨hv, hg⟩
    · simp only [if_neg q] at h2
      exact .inl ⟨j, ds, e, h2⟩
  have own' : ∀ b, Own (ρ.set i va) (fun j => if j = i then a else o j) b → Own ρ o b ∨ G b := by
    rintro b ⟨j, ds, h1, h2⟩
    rcases getj j _ h1 with ⟨rfl, e⟩ | ⟨q, e⟩
    · simp only [if_true] at h2
      subst h2
      obtain ⟨vs, n, _, hg, _⟩ := ha ds e.symm
      exact .inr hg
    · simp only [if_neg q] at h2
      exact .inl ⟨j, ds, e, h2⟩
  have xx' : ∀ b, ¬ XX Xc G env ρ o b → ¬ XX Xc G env (ρ.set i va) (fun j => if j = i then a else o j) b := by
    rintro b q (h | h | h | h | h)
    · exact q (.inl h)
    · exact q (.inr (.inl h))
    · exact q (.inr (.inr (.inl h)))
    · exact q (.inr (.inr (.inr (.inl h))))
    · rcases own' b h with h | h
      · exact q (.inr (.inr (.inr (.inr h))))
      · exact q (.inr (.inl h))
  refine
  { S with
    stk := ?_
    bare := by rw [St.gens]; exact S.bare
    os := St.os.trans S.os
    kp := k.of S.kp (by rintro b rfl; exact hnew)
    ns := St.ns
    cellv := fun y c h => ⟨(S.cellv y c h).1, St.cells y c h⟩
    gh := fun b h => ⟨(S.gh b h).1, St.there (S.gh b h).2⟩
    own := fun j ds h => ?_
    inj := fun j l ds es h1 h2 h3 => ?_
    vars := fun j y vj h1 h2 h3 => ?_ }
  · obtain ⟨⟨l, e1, e2⟩, e3⟩ := S.stk
    have cc : ∀ b ∈ frs A, ∃ ob, s'.heap.get? b = some ob ∧ Fr ob := by
      intro b hb'
      by_cases q : b = a0
      · rcases hw with h | ⟨y, hy⟩
        · rw [q, h]; exact St.fr
        · exfalso
          rcases S.fra b hb' with h | h
          · exact S.here.ne hy (h.symm.trans q)
          · exact h (q ▸ hnew)
      · obtain ⟨ob, z, f⟩ := e3 b hb'
        obtain ⟨sl, z'⟩ := k.fr b ob q z
        exact ⟨_, z', f⟩
    refine ⟨⟨l, e1, ?_⟩, cc⟩
    have hl : frs A = l.filterMap (·.frame) := by unfold frs; rw [e1]
    rw [hl] at cc
    clear hl e1 e3
    induction l with
    | nil => trivial
    | cons env rest ih =>
      obtain ⟨q1, ⟨L, ob, q2, q3, q4, q5⟩, q6⟩ := e2
      rw [List.filterMap_cons, q2] at cc
      obtain ⟨o', e', f'⟩ := cc L (.head _)
      exact ⟨q1, ⟨L, o', q2, q3, e', f'.2⟩, ih q6 fun b hb => cc b (.tail _ hb)⟩
  · rcases getj j _ h with ⟨rfl, e⟩ | ⟨q, e⟩
    · simp only [if_true]
      obtain ⟨vs, n, _, hg, hno, g, l, r⟩ := ha ds e.symm
      have hne : a ≠ a0 := by
        rintro rfl
        rcases hw with h | ⟨y, hy⟩
        · obtain ⟨m, ob, es, ep, z, d, _⟩ := S.ns
          rw [← h, g] at z; cases z; cases d
        · obtain ⟨u, ob, z, d⟩ := (S.cellv y a hy).2
          rw [g] at z; cases z; cases d
      exact ⟨(S.gh a hg).1, vs, n, k.obj a _ hne g ne_list, l, r.to (fun b q => xx' b q) up⟩
    · simp only [if_neg q]
      obtain ⟨z, vs, n, g, l, r⟩ := S.own j ds e
      have hne : o j ≠ a0 := by
        rintro rfl
        rcases hw with h | ⟨y, hy⟩
        · obtain ⟨m, ob, es, ep, z, d, _⟩ := S.ns
          rw [← h, g] at z; cases z; cases d
        · obtain ⟨u, ob, z, d⟩ := (S.cellv y _ hy).2
          rw [g] at z; cases z; cases d
      exact ⟨z, vs, n, k.obj _ _ hne g ne_list, l, r.to (fun b q => xx' b q) up⟩
  · rcases getj j _ h1 with ⟨rfl, e⟩ | ⟨q, e⟩ <;> rcases getj l _ h2 with ⟨rfl, e'⟩ | ⟨q', e'⟩
    · rfl
    · simp only [if_true, if_neg q'] at h3
      obtain ⟨vs, n, _, hg, hno, _⟩ := ha ds e.symm
      exact absurd ⟨l, es, e', h3.symm⟩ hno
    · simp only [if_true, if_neg q] at h3
      obtain ⟨vs, n, _, hg, hno, _⟩ := ha es e'.symm
      exact absurd ⟨j, ds, e, h3⟩ hno
    · simp only [if_neg q, if_neg q'] at h3
      exact S.inj j l ds es e e' h3
  · rcases getj j _ h2 with ⟨rfl, e⟩ | ⟨q, e⟩
    · have hxy : y = x := by
        simp only [Sc.isVar, Bool.and_eq_true, beq_iff_eq] at h1 hi
        have := h1.1.1.symm.trans hi.1.1
        exact Option.some.inj this
      subst hxy
      refine ⟨v, St.val, ?_⟩
      subst e
      cases vj with
      | un => trivial
      | v d => exact Rp.to (fun b q => xx' b q) up hva
      | own ds =>
        obtain ⟨vs, n, e, _⟩ := ha ds rfl
        show v = .ref (if j = j then a else o j)
        rw [if_pos rfl]; exact e
      | i3 n =>
        obtain ⟨t, vs, n, tok, e, g, x, r⟩ := hva
        exact ⟨t, vs, n, tok, e, up t _ x g (.inr (.inl rfl)), xx' t x, r⟩
    · have hxy : y ≠ x := fun z => q (isVar_inj S.nodup h1 (z ▸ hi))
      obtain ⟨u, q1, q2⟩ := S.vars j y vj h1 e h3
      refine ⟨u, St.oth y u hxy q1, ?_⟩
      cases vj with
      | un => trivial
      | v d => exact Rp.to (fun b q => xx' b q) up q2
      | own ds =>
        show u = .ref (if j = i then a else o j)
        rw [if_neg q]; exact q2
      | i3 n =>
        obtain ⟨t, vs, n, tok, e, g, x, r⟩ := q2
        exact ⟨t, vs, n, tok, e, up t _ x g (.inr (.inl rfl)), xx' t x, r⟩

theorem SS.less {G' : Addr → Prop} (S : SS prog w hb A Γ env Xc s₀ G ρ o s) (h : ∀ a, G' a → G a) : SS prog w hb A Γ env Xc s₀ G' ρ o s := S.ghost (.refl s) fun a q => .inl (h a q)
end
end Mine

-- M24
namespace Mine
open PySem PySem.Calls PyProof.Rows

section
variable {prog : Program} {w : World} {hb : Heap} {A : Around} {Γ : Sc} {env : Env} {Xc G : Addr → Prop} {s₀ : Shared} {ρ ρ' ρ'' : Rho} {o o' o'' : Nat → Addr} {s s' s'' : Shared}

theorem set_get {ρ : Rho} {i : Nat} {va : VA} {j : Nat} {vj : VA} (h : (ρ.set i va)[j]? = some vj) : (j = i ∧ vj = va) ∨ (j ≠ i ∧ ρ[j]? = some vj) := by
  by_cases q : j = i
  · subst q
    left
    refine ⟨rfl, ?_⟩
    rw [List.getElem?_set] at h
    simp only [if_true] at h
    split at h
    · exact (Option.some.inj h).symm
    · cases h
  · right
    rw [List.getElem?_set_ne (Ne.symm q)] at h
    exact ⟨q, h⟩

theorem SS.change {x : Nat} {ds ds' : List PyData} {vs' : List Value} {n' : Nat} (S : SS prog w hb A Γ env Xc s₀ G ρ o s) (hx : ρ[x]? = some (.own ds)) (hos : s'.os = s.os) (hgens : s'.gens = s.gens) (hsb : ∀ b ob, b ≠ o x → s.heap.get? b = some ob → s'.heap.get? b = some ob)
    (hg : s'.heap.get? (o x) = some { cls := .type "list", data := .seq (List.toArray vs') n' }) (hl : ds'.length ≤ LIM) (hr : RpL prog w s.heap (fun a => ¬ XX Xc G env ρ o a) vs' ds') :
    SS prog w hb A Γ env Xc s₀ G (ρ.set x (.own ds')) o s' ∧ KpB (NN env ρ o) hb s.heap s'.heap ∧ ∀ a, Own (ρ.set x (.own ds')) o a → Own ρ o a := by
  have hown : Own ρ o (o x) := ⟨x, ds, hx, rfl⟩
  have hN : NN env ρ o (o x) := .inr (.inr hown)
  have own' : ∀ b, Own (ρ.set x (.own ds')) o b → Own ρ o b := by
    rintro b ⟨j, es, h1, h2⟩
    rcases set_get h1 with ⟨rfl, _⟩ | ⟨_, e⟩
    · rw [← h2]; exact hown
    · exact ⟨j, es, e, h2⟩
  have xx' : ∀ b, ¬ XX Xc G env ρ o b → ¬ XX Xc G env (ρ.set x (.own ds')) o b := by
    rintro b q (h | h | h | h | h)
    · exact q (.inl h)
    · exact q (.inr (.inl h))
    · exact q (.inr (.inr (.inl h)))
    · exact q (.inr (.inr (.inr (.inl h))))
    · exact q (.inr (.inr (.inr (.inr (own' b h)))))
  have up : ∀ b ob, ¬ XX Xc G env ρ o b → s.heap.get? b = some ob → DtC ob.cls → s'.heap.get? b = some ob := fun b ob q e _ => hsb b ob (fun z => q (.inr (.inr (z ▸ hN)))) e
  obtain ⟨hnew, vs, n, g, _, _⟩ := S.own x ds hx
  have kk : KpB (fun b => b = o x) hb s.heap s'.heap := .strict fun b ob q e => hsb b ob q e
  have hLx : env.locals ≠ o x := by
    intro q
    obtain ⟨m, ob, es, ep, z, d, _⟩ := S.ns
    rw [q, g] at z; cases z; cases d
  have hcx : ∀ y c, env.cells.lookup y = some c → c ≠ o x := by
    rintro y c hy rfl
    obtain ⟨u, ob, z, d⟩ := (S.cellv y _ hy).2
    rw [g] at z; cases z; cases d
  have val : ∀ y u, ValOf env s.heap y u → ValOf env s'.heap y u := by
    rintro y u (⟨a, m, n, e⟩ | ⟨a, c, e, n⟩)
    · exact .inl ⟨a, m, n.at' fun ob e => hsb _ ob hLx e, e⟩
    · obtain ⟨ob, e1, e2⟩ := n
      exact .inr ⟨a, c, e, ob, hsb c ob (hcx y c e) e1, e2⟩
  refine ⟨{ S with
    stk := S.stk.kpb kk ?_
    bare := by rw [hgens]; exact S.bare
    os := hos.trans S.os
    kp := kk.of S.kp (by rintro b rfl; exact hnew)
    ns := ?_
    cellv := fun y c h => ⟨(S.cellv y c h).1, ?_⟩
    gh := fun b h => ⟨(S.gh b h).1, ?_⟩
    own := fun j es h => ?_
    inj := fun j l es fs h1 h2 h3 => ?_
    vars := fun j y vj h1 h2 h3 => ?_ }, ⟨?_, ?_, ?_⟩, own'⟩
  · rintro b rfl hm
    rcases S.fra _ hm with h | h
    · exact hLx h.symm
    · exact h hnew
  · obtain ⟨m, q⟩ := S.ns
    exact ⟨m, q.at' fun ob e => hsb _ ob hLx e⟩
  · obtain ⟨v, ob, e1, e2⟩ := (S.cellv y c h).2
    exact ⟨v, ob, hsb c ob (hcx y c h) e1, e2⟩
  · by_cases q : b = o x
    · rw [q, hg]; simp
    · cases z : s.heap.get? b with
      | none => exact absurd z (S.gh b h).2
      | some ob => rw [hsb b ob q z]; simp
  · rcases set_get h with ⟨rfl, e⟩ | ⟨q, e⟩
    · cases e
      exact ⟨hnew, vs', n', hg, hl, hr.to (fun b q => xx' b q) up⟩
    · obtain ⟨z, ws, m, g', l, r⟩ := S.own j es e
      exact ⟨z, ws, m, hsb _ _ (fun z => q (S.inj j x es ds e hx z)) g', l, r.to (fun b q => xx' b q) up⟩
  · rcases set_get h1 with ⟨rfl, e⟩ | ⟨q, e⟩ <;> rcases set_get h2 with ⟨rfl, e'⟩ | ⟨q', e'⟩
    · rfl
    · exact S.inj j l ds fs hx e' h3
    · exact S.inj j l es ds e hx h3
    · exact S.inj j l es fs e e' h3
  · rcases set_get h2 with ⟨rfl, e⟩ | ⟨q, e⟩
    · subst e
      obtain ⟨u, q1, q2⟩ := S.vars j y _ h1 hx (by simp)
      exact ⟨u, val y u q1, q2⟩
    · obtain ⟨u, q1, q2⟩ := S.vars j y vj h1 e h3
      exact ⟨u, val y u q1, q2.to (fun b q _ => xx' b q) up⟩
  · exact fun b ob nn => kk.low b ob fun q => nn (q ▸ hN)
  · exact fun b ob nn => kk.ex b ob fun q => nn (q ▸ hN)
  · exact fun b ob nn => kk.fr b ob fun q => nn (q ▸ hN)

theorem SS.freeze {x : Nat} {ds : List PyData} (S : SS prog w hb A Γ env Xc s₀ (fun _ => False) ρ o s) (hx : ρ[x]? = some (.own ds)) :
    SS prog w hb A Γ env Xc s₀ (fun _ => False) (ρ.set x (.v (.list ds))) o s ∧ ∀ a, Own (ρ.set x (.v (.list ds))) o a → Own ρ o a := by
  have own' : ∀ b, Own (ρ.set x (.v (.list ds))) o b → Own ρ o b ∧ b ≠ o x := by
    rintro b ⟨j, es, h1, h2⟩
    rcases set_get h1 with ⟨rfl, e⟩ | ⟨q, e⟩
    · cases e
    · exact ⟨⟨j, es, e, h2⟩, fun z => q (S.inj j x es ds e hx (h2.trans z))⟩
  have xx' : ∀ b, ¬ XX Xc (fun _ => False) env ρ o b → ¬ XX Xc (fun _ => False) env (ρ.set x (.v (.list ds))) o b := by
    rintro b q (h | h | h | h | h)
    · exact q (.inl h)
    · exact h
    · exact q (.inr (.inr (.inl h)))
    · exact q (.inr (.inr (.inr (.inl h))))
    · exact q (.inr (.inr (.inr (.inr (own' b h).1))))
  obtain ⟨hnew, vs, n, g, l, r⟩ := S.own x ds hx
  have hLx : o x ≠ env.locals := by
    intro q
    obtain ⟨m, ob, es, ep, z, d, _⟩ := S.ns
    rw [← q, g] at z; cases z; cases d
  have hx' : ¬ XX Xc (fun _ => False) env (ρ.set x (.v (.list ds))) o (o x) := by
    rintro (h | h | h | ⟨y, h⟩ | h)
    · exact S.xc _ h hnew
    · exact h
    · exact hLx h
    · obtain ⟨u, ob, z, d⟩ := (S.cellv y _ h).2
      rw [g] at z; cases z; cases d
    · exact (own' _ h).2 rfl
  refine ⟨{ S with
    own := fun j es h => ?_
    inj := fun j l es fs h1 h2 h3 => ?_
    vars := fun j y vj h1 h2 h3 => ?_ }, fun a h => (own' a h).1⟩
  · rcases set_get h with ⟨rfl, e⟩ | ⟨q, e⟩
    · cases e
    · obtain ⟨z, ws, m, g', l, r⟩ := S.own j es e
      exact ⟨z, ws, m, g', l, r.mono fun b q => xx' b q⟩
  · rcases set_get h1 with ⟨rfl, e⟩ | ⟨q, e⟩ <;> rcases set_get h2 with ⟨rfl, e'⟩ | ⟨q', e'⟩
    · rfl
    · cases e
    · cases e'
    · exact S.inj j l es fs e e' h3
  · rcases set_get h2 with ⟨rfl, e⟩ | ⟨q, e⟩
    · subst e
      obtain ⟨u, q1, q2⟩ := S.vars j y _ h1 hx (by simp)
      have q2' : u = .ref (o j) := q2
      subst q2'
      exact ⟨_, q1, .list hx' g l (r.mono fun b q => xx' b q)⟩
    · obtain ⟨u, q1, q2⟩ := S.vars j y vj h1 e h3
      exact ⟨u, q1, q2.to (fun b q _ => xx' b q) fun b ob _ e _ => e⟩

theorem SS.moved {I : Addr} {G' : Addr → Prop} (hG' : ∀ a, G' a → G a) (S : SS prog w hb A Γ env Xc s₀ G ρ o s) (hos : s'.os = s.os) (hgens : s'.gens = s.gens) (hsb : ∀ b ob, b ≠ I → s.heap.get? b = some ob → s'.heap.get? b = some ob)
    (hup : ∀ b ob, ¬ XX Xc G env ρ o b → s.heap.get? b = some ob → DtC ob.cls → b ≠ I) (hown : ∀ j ds, ρ[j]? = some (.own ds) → o j ≠ I) (hI0 : s₀.heap.get? I = none) (hIG : G' I → s'.heap.get? I ≠ none) (hIL : I ≠ env.locals) (hIc : ∀ y, env.cells.lookup y ≠ some I) : SS prog w hb A Γ env Xc s₀ G' ρ o s' := by
  have xx' : ∀ b, ¬ XX Xc G env ρ o b → ¬ XX Xc G' env ρ o b := by
    rintro b q (h | h | h)
    · exact q (.inl h)
    · exact q (.inr (.inl (hG' b h)))
    · exact q (.inr (.inr h))
  have kk : KpB (fun b => b = I) hb s.heap s'.heap := .strict fun b ob q e => hsb b ob q e
  have up : ∀ b ob, ¬ XX Xc G env ρ o b → s.heap.get? b = some ob → DtC ob.cls → s'.heap.get? b = some ob := fun b ob x e z => hsb b ob (hup b ob x e z) e
  refine
  { S with
    stk := S.stk.kpb kk ?_
    bare := by rw [hgens]; exact S.bare
    os := hos.trans S.os
    kp := kk.of S.kp (by rintro b rfl; exact hI0)
    ns := ?_
    cellv := fun y c h => ⟨(S.cellv y c h).1, ?_⟩
    gh := fun b h => ⟨(S.gh b (hG' b h)).1, ?_⟩
    own := fun j es h => ?_
    vars := fun j y vj h1 h2 h3 => ?_ }
  · rintro b rfl hm
    rcases S.fra _ hm with h | h
    · exact hIL h
    · exact h hI0
  · obtain ⟨m, q⟩ := S.ns
    exact ⟨m, q.at' fun ob e => hsb _ ob (Ne.symm hIL) e⟩
  · obtain ⟨v, ob, e1, e2⟩ := (S.cellv y c h).2
    exact ⟨v, ob, hsb c ob (fun q => hIc y (q ▸ h)) e1, e2⟩
  · by_cases q : b = I
    · subst q; exact hIG h
    · cases z : s.heap.get? b with
      | none => exact absurd z (S.gh b (hG' b h)).2
      | some ob => rw [hsb b ob q z]; simp
  · obtain ⟨z, ws, m, g', l, r⟩ := S.own j es h
    exact ⟨z, ws, m, hsb _ _ (hown j es h) g', l, r.to (fun b q => xx' b q) up⟩
  · obtain ⟨u, q1, q2⟩ := S.vars j y vj h1 h2 h3
    refine ⟨u, ?_, q2.to (fun b q _ => xx' b q) up⟩
    rcases q1 with ⟨a, m, n, e⟩ | ⟨a, c, e, n⟩
    · exact .inl ⟨a, m, n.at' fun ob e => hsb _ ob (Ne.symm hIL) e, e⟩
    · obtain ⟨ob, e1, e2⟩ := n
      exact .inr ⟨a, c, e, ob, hsb c ob (fun q => hIc y (q ▸ e)) e1, e2⟩

structure Ch (hb : Heap) (env : Env) (M : Addr → Prop) (ρ : Rho) (o : Nat → Addr) (s : Shared) (ρ' : Rho) (o' : Nat → Addr) (s' : Shared) : Prop where
  kp : KpB (fun a => NN env ρ o a ∨ M a) hb s.heap s'.heap
  own : ∀ a, Own ρ' o' a → Own ρ o a ∨ s.heap.get? a = none
  stay : ∀ a, s.heap.get? a ≠ none → s'.heap.get? a ≠ none

theorem Ch.refl {M : Addr → Prop} : Ch hb env M ρ o s ρ o s := ⟨.refl, fun _ h => .inl h, fun _ h => h⟩
theorem Ch.nx {M : Addr → Prop} (n : Nx hb s s') : Ch hb env M ρ o s ρ o s' := ⟨n.kp.b, fun _ h => .inl h, fun _ h => n.kp.some h⟩
theorem Ch.trans {M : Addr → Prop} (x : Ch hb env M ρ o s ρ' o' s') (y : Ch hb env M ρ' o' s' ρ'' o'' s'') : Ch hb env M ρ o s ρ'' o'' s'' := by
  have nn : ∀ a ob, ¬ (NN env ρ o a ∨ M a) → s.heap.get? a = some ob → ¬ (NN env ρ' o' a ∨ M a) := by
    rintro a ob n e ((h | h | h) | h)
    · exact n (.inl (.inl h))
    · exact n (.inl (.inr (.inl h)))
    · rcases x.own a h with h | h
      · exact n (.inl (.inr (.inr h)))
      · rw [h] at e; cases e
    · exact n (.inr h)
  refine ⟨⟨fun a ob n b e => y.kp.low a ob (nn a ob n e) b (x.kp.low a ob n b e), fun a ob n e c => y.kp.ex a ob (nn a ob n e) (x.kp.ex a ob n e c) c, fun a ob n e => ?_⟩, fun a h => ?_, fun a h => y.stay a (x.stay a h)⟩
  · obtain ⟨s1, z1⟩ := x.kp.fr a ob n e
    obtain ⟨s2, z2⟩ := y.kp.fr a _ (nn a ob n e) z1
    exact ⟨s2, z2⟩
  · rcases y.own a h with h | h
    · exact x.own a h
    · right
      cases z : s.heap.get? a with
      | none => rfl
      | some ob => exact absurd h (x.stay a (by rw [z]; simp))
end
end Mine

-- M25
namespace Mine
open PySem PySem.Calls PyProof.Rows

theorem setItem_plain {prog : Program} {w : World} {A : Around} {E : Value → Shared → Prop} {s : Shared} {l : Addr} {vs : List Value} {n : Nat} {k : Int} {t : Tok} {v : Value} {Q : Unit → Shared → Prop}
    (hl : s.heap.get? l = some { cls := .type "list", data := .seq vs.toArray n }) (h0 : 0 ≤ k) (hn : k < vs.length) (hlim : vs.length ≤ LIM)
    (hQ : ∀ h', h'.get? l = some { cls := .type "list", data := .seq (vs.set k.toNat v).toArray n } → Heap.SameBut l s.heap h' → Q () { s with heap := h' }) : wpAny (model prog w) A (setItem (.ref l) (.int k t) v) Q E s := by
  have hL := isList_of hl
  have hfit : k < 2 ^ 63 := by rw [LIM_eq] at hlim; omega
  unfold setItem
  try with_reducible refine wpAny_holding ?_
  first | refine wpAny_bind (wpAny_pure ?_) | skip
  refine wpAny_bind (wpAny_sequenceKey hL.typeIs (by decide) ?_)
  refine wpAny_bind (wpAny_callSpecial?_slot (name := Str.ofString "__setitem__") hL.typeIs slot_list_setitem (wpAny_call_entry slot_list_setitem hL.typeIs entry_list_setitem ?_ (args_list_setitem _ _ _)))
  show wpAny _ _ (Builtin.List.listSubscript? (.int k t) >>= _) _ _ s
  refine wpAny_bind (wpAny_listSubscript_int (fitsIndex_of h0 hfit) ?_)
  clear hfit
  obtain ⟨j, rfl⟩ := Int.eq_ofNat_of_zero_le h0
  have hj : j < vs.length := by omega
  have hx' : vs.toArray[j]? = some vs[j] := by simp [hj]
  show wpAny _ _ ((seqItemAt l j >>= fun r => pure (r.map (j, ·))) >>= _) _ _ s
  refine wpAny_bind (wpAny_bind (wpAny_seqItemAt hl rfl (wpAny_pure ?_)))
  rw [hx']
  show wpAny _ _ (setSeqItemAt l j v >>= _) _ _ s
  refine wpAny_bind (wpAny_setSeqItemAt hl rfl ?_)
  have hfin : (s.heap.update l (Obj.mapSeq (·.setIfInBounds j v))).get? l = some { cls := .type "list", data := .seq (vs.set (j : Int).toNat v).toArray n } := by
    have := IsL.update hl (·.setIfInBounds j v)
    simpa using this
  first
    | exact wpAny_bind (wpAny_pure (wpAny_pure ⟨.none, rfl, wpAny_pure (hQ _ hfin (Heap.SameBut.update ..))⟩))
    | exact wpAny_pure ⟨.none, rfl, wpAny_pure (hQ _ hfin (Heap.SameBut.update ..))⟩

noncomputable def Fl (hb : Heap) (s s' : Shared) (e : Addr) (cls : Value) : Prop :=
  Nx hb s s' ∧ s.heap.get? e = none ∧ ∃ oe vs, s'.heap.get? e = some oe ∧ oe.cls = cls ∧ oe.data = .fields vs ∧
    (vs[1]? = some .none ∨ ∃ T oT ts, vs[1]? = some (.ref T) ∧ s.heap.get? T = none ∧ T ≠ e ∧ s'.heap.get? T = some oT ∧ oT.data = .fields ts ∧ ts[3]? = some .none)
theorem Flown.fl {hb : Heap} {s s' : Shared} {e : Addr} {cls : Value} (f : Flown hb s s' e cls) : Fl hb s s' e cls := by
  obtain ⟨h1, h2, oe, vs, T, oT, ts, a1, a2, a3, a4, a5, a6⟩ := f
  exact ⟨h1, h2, oe, vs, a1, a2, a3, .inr ⟨T, oT, ts, a4, a5, a6⟩⟩

abbrev No : Addr → Prop := fun _ => False

noncomputable def StOk (prog : Program) (w : World) (hb : Heap) (cO : Addr) (A : Around) (Γ : Sc) (env : Env) (Xc : Addr → Prop) (s₀ : Shared) (ρ : Rho) (m : Sem Flow) (out : Out) : Prop :=
  ∀ o s, SS prog w hb A Γ env Xc s₀ No ρ o s → out ≠ .stuck → ∀ (Q : Flow → Shared → Prop) (E : Value → Shared → Prop),
    (∀ ρ' o' s', out = .next ρ' → SS prog w hb A Γ env Xc s₀ No ρ' o' s' → Ch hb env No ρ o s ρ' o' s' → Q .next s') →
    (∀ v s' d, out = .ret d → Nx hb s₀ s' → Rp prog w s'.heap (fun a => ¬ Xc a) v d → Q (.ret v) s') →
    (∀ v s' ns fs a b, out = .retF ns fs a b → Nx hb s₀ s' → NewF prog w Xc s₀ s' v (.tuple [.list ns, .list fs, a, b]) → Q (.ret v) s') →
    (∀ e s' k ρ' o' s₁, out = .exc k ρ' → SS prog w hb A Γ env Xc s₀ No ρ' o' s₁ → Ch hb env No ρ o s ρ' o' s₁ → Fl hb s₁ s' e (exCls cO k) → E (.ref e) s') → wpAny (model prog w) A m Q E s

section
variable {prog : Program} {w : World} {hb : Heap} {cO : Addr} {A : Around} {Γ : Sc} {env : Env} {Xc G : Addr → Prop} {s₀ : Shared} {ρ ρ' ρ'' : Rho} {o o' o'' : Nat → Addr} {s s' s'' s₁ : Shared}

theorem isVar_kind (hcs : Γ.cs = none) (hsc : env.scope = Γ.fs) (hcel : ∀ y, Γ.fs.names.lookup y = some .cell → ∃ c, env.cells.lookup y = some c) {i : Nat} {x : Str} (h : Γ.isVar i x = true) : env.kindOf x = some .local ∨ (env.kindOf x = some .cell ∧ ∃ c, env.cells.lookup x = some c) := by
  simp only [Sc.isVar, hcs, Bool.and_eq_true, Bool.or_eq_true, beq_iff_eq] at h
  have e : env.kindOf x = Γ.fs.names.lookup x := by unfold Env.kindOf; rw [hsc]
  rw [e]
  rcases h.2 with h | h
  · exact .inl h
  · exact .inr ⟨h, hcel x h⟩

theorem st_store {M : Model} {A' : Around} {E : Value → Shared → Prop} {Q : Unit → Shared → Prop} {i : Nat} {x : Str} {v : Value} {va : VA} (S : SS prog w hb A Γ env Xc s₀ No ρ o s) (n : Nx hb s s₁) (hG : ∀ a, G a → s.heap.get? a = none ∧ s₁.heap.get? a ≠ none) (hi : Γ.isVar i x = true)
    (hva : VP prog w G (XX Xc G env ρ o) (Own ρ o) s₁.heap va v) (h : ∀ o' s', SS prog w hb A Γ env Xc s₀ G (ρ.set i va) o' s' → Stored hb env x v s₁ s' → Ch hb env No ρ o s (ρ.set i va) o' s' → Q () s') : wpAny M A' (storeName env x v) Q E s₁ := by
  have S₁ := S.ghost (G' := G) n fun a q => .inr (hG a q)
  refine store (hb := hb) S.kind (isVar_kind S.cs S.scope S.cel hi) S₁.here fun s' St => ?_
  obtain ⟨o', S', k, w'⟩ := S₁.put hi St hva
  refine h o' s' S' St ⟨?_, fun a q => ?_, fun a q => St.there (n.kp.some q)⟩
  · exact KpB.trans n.kp.b ⟨fun a ob nn => k.low a ob fun z => nn (.inl z), fun a ob nn => k.ex a ob fun z => nn (.inl z), fun a ob nn => k.fr a ob fun z => nn (.inl z)⟩
  · rcases w' a q with q | q
    · exact .inl q
    · exact .inr (hG a q.2).1

end
end Mine

-- M26
namespace Mine
open PySem PySem.Calls PyProof.Rows PySem.W

noncomputable def hidden (hb h : Heap) : List Addr := open Classical in (List.range h.objs.size).filter fun b => decide ((∃ o, h.get? b = some o ∧ Mine.Fr o) ∧ hb.get? b = none)
theorem mem_hidden {hb h : Heap} {b : Addr} : b ∈ hidden hb h ↔ (∃ o, h.get? b = some o ∧ Mine.Fr o) ∧ hb.get? b = none := by
  unfold hidden
  simp only [List.mem_filter, List.mem_range, decide_eq_true_eq]
  constructor
  · exact fun h => h.2
  · rintro ⟨⟨o, e, f⟩, q⟩
    exact ⟨Heap.lt_size e, ⟨o, e, f⟩, q⟩

section
variable {M : Model} {A : Around} {E : Value → Shared → Prop} {hb : Heap} {s s' : Shared} {env : Env} {e : Addr} {cls : Value}

theorem notes {outer : List Env} {Q : Unit → Shared → Prop} (hfr : A.frames = some (env :: outer)) (hf : env.frame = some env.locals) (hb0 : hb.StaysIn s.heap) (hst : Stk hb A s'.heap) (hL : ∀ b ∈ frs A, s.heap.get? b = none ∨ ∃ o, s.heap.get? b = some o ∧ Mine.Fr o) (f : Fl hb s s' e cls)
    (h : ∀ s'', Flown hb s s'' e cls → Q () s'') : wpAny M A (noteFrame (.ref e) env) (fun _ s₂ => wpAny M A (setFlight (.ref e) none) Q E s₂) E s' := by
  obtain ⟨n, hen, oe, vs, he, hcls, hd, hv⟩ := f
  obtain ⟨⟨l, hl1, hl2⟩, hl3⟩ := hst
  rw [hfr] at hl1; cases hl1
  have hfrs : frs A = (env :: outer).filterMap (·.frame) := by unfold frs; rw [hfr]
  rw [hfrs] at hL hl3
  -- the base
  generalize hbase : hideAll s.heap (hidden hb s.heap) = base
  have ofb : ∀ a o, base.get? a = some o → s.heap.get? a = some o ∧ (¬ Mine.Fr o ∨ hb.get? a ≠ none) := fun a o q => by
    rw [← hbase] at q
    have q1 := of_hideAll _ q
    refine ⟨q1, ?_⟩
    by_cases z : Mine.Fr o
    · right
      intro y
      rw [hideAll_none _ (mem_hidden.mpr ⟨⟨o, q1, z⟩, y⟩)] at q; cases q
    · exact .inl z
  have tob : ∀ a o, s.heap.get? a = some o → (¬ Mine.Fr o ∨ hb.get? a ≠ none) → base.get? a = some o := fun a o q z => by
    rw [← hbase]
    refine hideAll_get _ q fun hm => ?_
    obtain ⟨⟨o', q', f'⟩, y⟩ := mem_hidden.mp hm
    rw [q] at q'; cases q'
    rcases z with z | z
    · exact z f'
    · exact z y
  have hnone : ∀ a, s.heap.get? a = none → base.get? a = none := fun a q => by
    cases z : base.get? a with
    | none => rfl
    | some o => have := (ofb a o z).1; rw [q] at this; cases this
  have kb : base.StaysIn s'.heap := fun b o q => by
    obtain ⟨q1, z⟩ := ofb b o q
    rcases z with z | z
    · exact n.kp.ex b o q1 z
    · cases y : hb.get? b with
      | none => exact absurd y z
      | some o' =>
        have := hb0 b o' y
        rw [q1] at this; cases this
        exact n.kp.low b o y q1
  have hff : ∀ {h : Heap} (l : List Env), h.FunFrames hb l → (∀ b ∈ l.filterMap (·.frame), s.heap.get? b = none ∨ ∃ o, s.heap.get? b = some o ∧ Mine.Fr o) → h.FunFrames base l := by
    intro h l
    induction l with
    | nil => intro _ _; trivial
    | cons env rest ih =>
      rintro ⟨q1, ⟨L, ob, q2, q3, q4, q5⟩, q6⟩ hm
      rw [List.filterMap_cons, q2] at hm
      refine ⟨q1, ⟨L, ob, q2, ?_, q4, q5⟩, ih q6 fun b hb => hm b (.tail _ hb)⟩
      cases z : base.get? L with
      | none => rfl
      | some o =>
        obtain ⟨y1, y2⟩ := ofb L o z
        rcases hm L (.head _) with y | ⟨o', y, y'⟩
        · rw [y1] at y; cases y
        · rw [y1] at y; cases y
          rcases y2 with y2 | y2
          · exact absurd y' y2
          · exact absurd q3 y2
  have hl2' := hff _ hl2 hL
  -- what comes of it
  have fin : ∀ h₁ h', (∀ b o, s'.heap.get? b = some o → (∀ vs, o.data ≠ .fields vs) → h₁.get? b = some o) → Heap.Left base (env :: outer) e cls h₁ h' → Q () { s' with heap := h' } := by
    rintro h₁ h' k1 ⟨x1, x2, x3, x4⟩
    have x4' : ∀ b o, s'.heap.get? b = some o → (∀ vs, o.data ≠ .fields vs) → ∃ sl, h'.get? b = some { o with slots := sl } := fun b o q z => x4 b o (k1 b o q z) z
    refine h _ ⟨⟨n.os, ⟨fun a o y q => x1 a o (tob a o q (.inr (by rw [y]; simp))), fun a o q z => x1 a o (tob a o q (.inl z)), fun a o q => ?_⟩, n.gens⟩, hen, ?_⟩
    · by_cases z : Mine.Fr o
      · obtain ⟨sl, q'⟩ := n.kp.fr a o q
        obtain ⟨sl', q''⟩ := x4' a _ q' z.2
        exact ⟨sl', q''⟩
      · exact ⟨o.slots, x1 a o (tob a o q (.inl z))⟩
    · obtain ⟨oe', vs', T, oT, ts, a1, a2, a3, a4, a5, a6, a7, a8, a9⟩ := x3
      refine ⟨oe', vs', T, oT, ts, a1, a2, a3, a4, ?_, a6, a7, a8, a9⟩
      cases q : s.heap.get? T with
      | none => rfl
      | some o =>
        exfalso
        by_cases z : Mine.Fr o
        · obtain ⟨sl, q'⟩ := n.kp.fr T o q
          obtain ⟨sl', q''⟩ := x4' T _ q' z.2
          rw [a7] at q''; cases q''
          exact z.2 ts a8
        · rw [tob T o q (.inl z)] at a5; cases a5
  subst hcls
  unfold noteFrame
  simp only [hf]
  rcases hv with hv | ⟨T, oT, ts, h1, hnT, hTe, hT, hdT, h3⟩
  · refine wpAny_bind (wpAny_field he hd hv ?_)
    rw [if_neg (by decide)]
    exact wpAny_newEntry hfr hl2' hf he kb (hnone e hen) hd (Array.getElem?_eq_some_iff.mp hv).1 fun h' hl => fin s'.heap h' (fun _ _ q _ => q) hl
  · refine wpAny_bind (wpAny_field he hd h1 ?_)
    rw [if_pos (show (Value.ref T != Value.none) = true from by simp)]
    refine wpAny_bind (wpAny_field hT hdT h3 ?_)
    rw [if_neg (show ¬ ((Value.none == rawInt env.locals) = true) from by simp [rawInt])]
    refine wpAny_bind (wpAny_setField hT hdT (Array.getElem?_eq_some_iff.mp h3).1 ?_)
    have other : ∀ b, b ≠ T → (s'.heap.update T (Obj.mapFields (·.setIfInBounds 3 Value.none))).get? b = s'.heap.get? b := fun b hb => Heap.get?_update_other _ _ (Ne.symm hb)
    have noRecord : ∀ b o, s'.heap.get? b = some o → (∀ vs, o.data ≠ .fields vs) → b ≠ T := fun b o hb hnf q => by
      rw [q, hT] at hb; injection hb with hb; subst hb; exact hnf ts hdT
    refine wpAny_newEntry hfr (hl2'.of_keeps fun b o hb hnf => ⟨o, (other b (noRecord b o hb hnf)).trans hb, rfl⟩) hf ((other e (Ne.symm hTe)).trans he)
      (fun b o hbo => (other b fun q => by rw [q, hnone T hnT] at hbo; cases hbo).trans (kb b o hbo)) (hnone e hen) hd (Array.getElem?_eq_some_iff.mp h1).1
      fun h' hl => fin _ h' (fun b o q z => (other b (noRecord b o q z)).trans q) hl

theorem leaves {outer : List Env} {Q : Unit → Shared → Prop} (hfr : A.frames = some (env :: outer)) (hf : env.frame = some env.locals) (hb0 : hb.StaysIn s.heap) (hst : Stk hb A s'.heap) (hL : ∀ b ∈ frs A, s.heap.get? b = none ∨ ∃ o, s.heap.get? b = some o ∧ Mine.Fr o) (f : Fl hb s s' e cls)
    (h : ∀ s'', Flown hb s s'' e cls → Q () s'') : wpAny M A (leaving env (.ref e)) Q E s' := by
  unfold leaving
  exact wpAny_bind (notes hfr hf hb0 hst hL f h)

theorem landed {Q : Unit → Shared → Prop} (f : Flown hb s s' e cls) (h : ∀ s'', Flown hb s s'' e cls → Q () s'') : wpAny M A (setFlight (.ref e) none) Q E s' := by
  obtain ⟨n, hen, oe, vs, T, oT, ts, he, hcls, hd, h1, hnT, hTe, hT, hdT, h3⟩ := f
  unfold setFlight
  refine wpAny_bind (wpAny_field he hd h1 ?_)
  rw [if_pos (show (Value.ref T != Value.none) = true from by simp)]
  refine wpAny_setField hT hdT (Array.getElem?_eq_some_iff.mp h3).1 (h _ ⟨⟨n.os, ?_, n.gens⟩, hen, oe, vs, T, _, _, ?_, hcls, hd, h1, hnT, hTe, Heap.get?_update_self _ hT (Obj.isFreed_of_fields (Obj.data_mapFields hdT _)), Obj.data_mapFields hdT _, ?_⟩)
  · exact KpB.of (N := fun b => b = T) (.strict fun b o q e => (Heap.get?_update_other _ _ (Ne.symm q)).trans e) n.kp (by rintro a rfl; exact hnT)
  · exact (Heap.get?_update_other _ _ hTe).trans he
  · have := (Array.getElem?_eq_some_iff.mp h3).1
    simp [this]
end
end Mine

-- M27
namespace Mine
open PySem PySem.Calls PyProof.Rows

section
variable {prog : Program} {w : World} {hb : Heap} {cO : Addr} {A : Around} {Γ : Sc} {env : Env} {Xc G : Addr → Prop} {s₀ : Shared} {ρ ρ' ρ'' : Rho} {o o' o'' : Nat → Addr} {s s' s'' s₁ : Shared} {T : Tb} {F : FT} {n : Nat}

theorem out_ne {α : Type} {x : R α} {f : α → Out} (h : x.out ρ f ≠ .stuck) : x ≠ .stuck := by
  rintro rfl; exact h rfl
theorem out_ok {α : Type} {x : R α} {f : α → Out} {a : α} (e : x = .ok a) : x.out ρ f = f a := by subst e; rfl
theorem out_exc {α : Type} {x : R α} {f : α → Out} {k : Exk} (e : x = .exc k) : x.out ρ f = .exc k ρ := by subst e; rfl

noncomputable def swapsNo : Expr → Bool
  | .ListComp .. | .SetComp .. | .DictComp .. => false
  | _ => true
theorem swaps_no {p : Expr} (h : swapsNo p = true) (t : Option Expr) (l : Nat) : swapsWith p t l env = pure false := by
  cases p <;> first | rfl | (simp [swapsNo] at h)
theorem swaps_sub (p : Expr) (a i : Expr) (pos : Pos) (l : Nat) : swapsWith p (some (.Subscript a i pos)) l env = pure false := by
  cases p <;> rfl

theorem new_not_own (S : SS prog w hb A Γ env Xc s₀ No ρ o s) {a : Addr} (h : s.heap.get? a = none) : ¬ Own ρ o a := fun q => S.nn_in (.inr (.inr q)) h

theorem vp_own {a : Addr} {ds : List PyData} (S : SS prog w hb A Γ env Xc s₀ No ρ o s) (hnew : s.heap.get? a = none) (q : Rp prog w s₁.heap (fun a => ¬ XX Xc No env ρ o a) (.ref a) (.list ds)) :
    VP prog w (fun b => b = a) (XX Xc (fun b => b = a) env ρ o) (Own ρ o) s₁.heap (.own ds) (.ref a) ∧ s₁.heap.get? a ≠ none := by
  have q' := q
  cases q with
  | list p g l r =>
    obtain ⟨l, r'⟩ := q'.inside g
    refine ⟨⟨a, _, _, rfl, rfl, new_not_own S hnew, g, l, r'.mono fun b z => ?_⟩, by rw [g]; simp⟩
    rintro (h | h | h)
    · exact z.1 (.inl h)
    · exact z.2 h
    · exact z.1 (.inr (.inr h))

theorem st_assign_plain {i : Nat} {x : Str} {px pos : Pos} {p : Expr} {r : R PyData} {fr : Bool} (hi : Γ.isVar i x = true) (hsw : swapsWith p (some (.Name x px)) pos.line env = pure false)
    (he : ∀ o s, SS prog w hb A Γ env Xc s₀ No ρ o s → EOk prog w hb cO A (XX Xc No env ρ o) fr s (eval p env) r) :
    StOk prog w hb cO A Γ env Xc s₀ ρ (exec (.Assign [.Name x px] p pos) env) (r.out ρ fun d => .next (setV ρ i d)) := by
  intro o s S hr Q E hn hret hretF hexc
  refine wpAny_Assign_Name (he o s S (out_ne hr) _ _ (fun v s₁ d e n1 q _ => ?_) fun e s' k ek fl => hexc e s' k ρ o s (out_exc ek) S .refl fl.fl) hsw
  rw [out_ok e] at hn
  exact st_store (G := No) S n1 (fun a h => h.elim) hi (va := .v d) q fun o' s' S' _ c => hn _ o' s' rfl S' c
theorem st_assignO_plain {i : Nat} {x : Str} {px pos : Pos} {p : Expr} {r : R PyData} (hi : Γ.isVar i x = true) (hsw : swapsWith p (some (.Name x px)) pos.line env = pure false)
    (he : ∀ o s, SS prog w hb A Γ env Xc s₀ No ρ o s → EOk prog w hb cO A (XX Xc No env ρ o) true s (eval p env) r) :
    StOk prog w hb cO A Γ env Xc s₀ ρ (exec (.Assign [.Name x px] p pos) env) (r.out ρ fun d => match d with | .list ds => .next (ρ.set i (.own ds)) | _ => .stuck) := by
  intro o s S hr Q E hn hret hretF hexc
  refine wpAny_Assign_Name (he o s S (out_ne hr) _ _ (fun v s₁ d e n1 q nl => ?_) fun e s' k ek fl => hexc e s' k ρ o s (out_exc ek) S .refl fl.fl) hsw
  rw [out_ok e] at hn hr
  cases d with
  | list ds =>
    obtain ⟨a, rfl, ha⟩ := nl rfl ds rfl
    obtain ⟨vp, ha'⟩ := vp_own S ha q
    exact st_store S n1 (fun b h => by subst h; exact ⟨ha, ha'⟩) hi vp fun o' s' S' _ c => hn _ o' s' rfl (S'.less fun b h => h.elim) c
  | _ => exact absurd rfl hr

theorem st_comp {va : List PyData → VA} {i : Nat} {x y : Str} {px py pos spos : Pos} {elt it : Expr} {ifs : List Expr} {sc : Scope} {p f : PyData → R PyData} {src : R (List PyData)} {fr : Bool} (hva : (va = fun ds => .v (.list ds)) ∨ (va = fun ds => .own ds))
    (hi : Γ.isVar i y = true) (hsw : swapsWith (.ListComp elt [⟨.Name x px, it, ifs, 0⟩] sc pos) (some (.Name y py)) spos.line env = pure true) (hsc : compSc Γ sc x = true) (hset : isSetE it = false)
    (hsrc : ∀ o s, SS prog w hb A Γ env Xc s₀ No ρ o s → IOk prog w hb cO A (XX Xc No env ρ o) s (eval it env) src)
    (htest : ∀ X O cl C D s₃ d, SE prog w hb A (Γ.into sc x) (compEnvC sc cl C env) ρ (some d) (X3 X C D) O s₃ → FOk prog w hb A ifs (compEnvC sc cl C env) s₃ (p d))
    (helt : ∀ X O cl C D s₃ d, SE prog w hb A (Γ.into sc x) (compEnvC sc cl C env) ρ (some d) (X3 X C D) O s₃ → EOk prog w hb cO A (X3 X C D) fr s₃ (eval elt (compEnvC sc cl C env)) (f d)) :
    StOk prog w hb cO A Γ env Xc s₀ ρ (exec (.Assign [.Name y py] (.ListComp elt [⟨.Name x px, it, ifs, 0⟩] sc pos) spos) env) ((src.bind (filterR p f)).out ρ fun ds => .next (ρ.set i (va ds))) := by
  intro o s S hr Q E hn hret hretF hexc
  rw [exec_Assign_Name_used _ _ _ _ hsw]
  refine wpAny_bind (wpAny_standAt (wpAny_bind ?_))
  show wpAny _ A (do let _ ← comprehension (.ListComp elt [⟨.Name x px, it, ifs, 0⟩] sc pos) sc env _ (newList []) false (eval it env) (some (assign (.Name y py) env))) _ _ s
  refine wpAny_bind (wpAny_mono (comp_run (use := some (assign (.Name y py) env)) (Q := fun _ s' => Q .next s') (E := E) S.se hsc hset (hsrc o s S) (fun cl C D s₃ d => htest _ _ cl C D s₃ d) (fun cl C D s₃ d => helt _ _ cl C D s₃ d)
    (fun p hp hf => S.cel _ (mem_lookup_free hsc p hp hf)) (out_ne hr) (fun es D C s' e ce => ?_) fun e s' k ek fl => hexc e s' k ρ o s (out_exc ek) S .refl fl.fl) (fun _ s' hq => wpAny_pure (wpAny_pure hq)) fun _ _ e => e)
  rw [out_ok e] at hn
  obtain ⟨n1, hC, hD, hCD, ⟨m, hm⟩, ws, nn, g, r, hl⟩ := ce
  have hC' : s'.heap.get? C ≠ none := by
    obtain ⟨o, q, _⟩ := ns_not_fields hm
    rw [q]; simp
  have rr : ∀ G : Addr → Prop, (∀ b, G b → b = C ∨ b = D) → RpL prog w s'.heap (fun a => ¬ XX Xc G env ρ o a) ws es := fun G hG => r.mono fun a q => by
    rintro (h | h | h)
    · exact q (.inl (.inl h))
    · rcases hG a h with h | h
      · exact q (.inr (.inl h))
      · exact q (.inr (.inr h))
    · exact q (.inl (.inr (.inr h)))
  -- the end, when the comprehension's names go
  have fin : ∀ (G : Addr → Prop) o' s'', G C → SS prog w hb A Γ env Xc s₀ G (ρ.set i (va es)) o' s'' → Stored hb env y (.ref D) s' s'' → Ch hb env No ρ o s (ρ.set i (va es)) o' s'' →
      ∃ m, s''.heap.Ns C m ∧ ∀ h', Heap.SameBut C s''.heap h' → Q .next { s'' with heap := h' } := by
    intro G o' s'' hGC S'' St c
    have hCm : s''.heap.Ns C m := by
      obtain ⟨a0, hw, k⟩ := St.kp
      have hne : C ≠ a0 := by
        rintro rfl
        rcases hw with h | h
        · exact S.nn_in (.inl h) hC
        · exact S.nn_in (.inr (.inl h)) hC
      obtain ⟨ob, es, ep, q, d, z⟩ := hm
      obtain ⟨sl, q'⟩ := k.fr C ob hne q
      exact ⟨_, es, ep, q', d, z⟩
    refine ⟨m, hCm, fun h' hs => ?_⟩
    have S3 : SS prog w hb A Γ env Xc s₀ No (ρ.set i (va es)) o' { s'' with heap := h' } := by
      refine S''.moved (I := C) (fun _ h => h.elim) rfl rfl (fun b ob q e => hs.extBut b ob q e) (fun b ob q _ _ z => q (.inr (.inl (z ▸ hGC)))) (fun j ds hj z => ?_) (S.newS hC) (fun h => h.elim) (fun z => S.nn_in (.inl z) hC) fun z hz => S.nn_in (.inr (.inl ⟨z, hz⟩)) hC
      obtain ⟨_, vs, n', g', _⟩ := S''.own j ds hj
      obtain ⟨ob, es, ep, q, d, _⟩ := hCm
      rw [z, q] at g'
      cases g'; cases d
    have hne : ∀ a, s.heap.get? a ≠ none → a ≠ C := fun a h z => h (z ▸ hC)
    have some_of : ∀ {a : Addr} {ob : Obj}, s.heap.get? a = some ob → s.heap.get? a ≠ none := fun e => by rw [e]; simp
    refine hn _ o' _ rfl S3 ⟨⟨fun a ob q b e => hs.extBut a ob (hne a (some_of e)) (c.kp.low a ob q b e), fun a ob q e z => hs.extBut a ob (hne a (some_of e)) (c.kp.ex a ob q e z), fun a ob q e => ?_⟩, c.own, fun a h => ?_⟩
    · obtain ⟨sl, z⟩ := c.kp.fr a ob q e
      exact ⟨sl, hs.extBut a _ (hne a (some_of e)) z⟩
    · cases z : s''.heap.get? a with
      | none => exact absurd z (c.stay a h)
      | some ob =>
        show h'.get? a ≠ none
        rw [hs.extBut a ob (hne a h) z]; simp
  show wpAny _ A (assign (.Name y py) env (.ref D)) _ _ _
  rcases hva with rfl | rfl
  · refine wpAny_assign_Name (st_store (G := fun b => b = C) (va := .v (.list es)) S n1 (fun b h => by subst h; exact ⟨hC, hC'⟩) hi ?_ fun o' s'' S'' St c => fin (fun b => b = C) o' s'' rfl S'' St c)
    refine .list ?_ g hl (rr _ fun b h => .inl h)
    rintro (h | h | h)
    · exact S.kp.some (S.xc D h) hD
    · exact hCD h.symm
    · exact S.nn_in h hD
  · refine wpAny_assign_Name (st_store (G := fun b => b = C ∨ b = D) (va := .own es) S n1 (fun b h => ?_) hi ⟨D, ws, nn, rfl, .inr rfl, new_not_own S hD, g, hl, rr _ fun b h => h⟩ fun o' s'' S'' St c => fin (fun b => b = C ∨ b = D) o' s'' (.inl rfl) S'' St c)
    rcases h with rfl | rfl
    · exact ⟨hC, hC'⟩
    · exact ⟨hD, by rw [g]; simp⟩
end
end Mine

-- M28
namespace Mine
open PySem PySem.Calls PyProof.Rows

section
variable {prog : Program} {w : World} {hb : Heap} {cO : Addr} {A : Around} {Γ : Sc} {env : Env} {Xc G : Addr → Prop} {s₀ : Shared} {ρ ρ' ρ'' : Rho} {o o' o'' : Nat → Addr} {s s' s'' s₁ : Shared} {T : Tb} {F : FT} {n : Nat}

theorem Ch.xx (c : Ch hb env No ρ o s ρ' o' s') {a : Addr} (h : ¬ XX Xc No env ρ o a) (e : s.heap.get? a ≠ none) : ¬ XX Xc No env ρ' o' a := by
  rintro (q | q | q | q | q)
  · exact h (.inl q)
  · exact q
  · exact h (.inr (.inr (.inl q)))
  · exact h (.inr (.inr (.inr (.inl q))))
  · rcases c.own a q with q | q
    · exact h (.inr (.inr (.inr (.inr q))))
    · exact e q
theorem Ch.up (c : Ch hb env No ρ o s ρ' o' s') {a : Addr} {ob : Obj} (h : ¬ XX Xc No env ρ o a) (e : s.heap.get? a = some ob) (z : DtC ob.cls) : s'.heap.get? a = some ob :=
  c.kp.obj a ob (by rintro (q | q); exact h (.inr (.inr q)); exact q) e z.ne
theorem Ch.rpl (c : Ch hb env No ρ o s ρ' o' s') {vs : List Value} {ds : List PyData} (r : RpL prog w s.heap (fun a => ¬ XX Xc No env ρ o a) vs ds) : RpL prog w s'.heap (fun a => ¬ XX Xc No env ρ' o' a) vs ds :=
  r.there.to (fun _ q => c.xx q.1 q.2.2) fun _ _ q e z => c.up q.1 e z

theorem names_each : ∀ {is : List Nat} {ps : List Expr}, (assignEach (rbN Γ is ps) env).length = is.length ∧ (assignEach (rbN Γ is ps) env).findIdx? (·.1) = none
  | [], _ => ⟨rfl, rfl⟩
  | i :: is, ps => by
    obtain ⟨h1, h2⟩ := names_each (is := is) (ps := ps.tail)
    have e : assignEach (rbN Γ (i :: is) ps) env = (false, assign (.Name (Γ.nm i) (ps.getD 0 dE).pos) env) :: assignEach (rbN Γ is ps.tail) env := rfl
    rw [e]
    refine ⟨congrArg (· + 1) h1, ?_⟩
    rw [List.findIdx?_cons, h2]; rfl

theorem st_names {M : Model} {A' : Around} {E : Value → Shared → Prop} {Q : Unit → Shared → Prop} : ∀ {is : List Nat} {ps : List Expr} {vals : List Value} {ds : List PyData} {ρ ρ' : Rho} {o : Nat → Addr} {s : Shared}, wfN Γ is = true → SS prog w hb A Γ env Xc s₀ No ρ o s →
    RpL prog w s.heap (fun a => ¬ XX Xc No env ρ o a) vals ds → setVs is ds ρ = some ρ' → (∀ o' s', SS prog w hb A Γ env Xc s₀ No ρ' o' s' → Ch hb env No ρ o s ρ' o' s' → Q () s') → wpAny M A' (assignInOrder ((assignEach (rbN Γ is ps) env).map (·.2)) vals) Q E s
  | [], ps, vals, ds, ρ, ρ', o, s, hc, S, r, hs, h => by
    cases ds with
    | cons _ _ => exact none_ne hs
    | nil =>
      cases r
      have hs := Option.some.inj hs
      subst hs
      exact wpAny_pure (h o s S .refl)
  | i :: is, ps, vals, ds, ρ, ρ', o, s, hc, S, r, hs, h => by
    have hc := Bool.and_eq_true_iff.mp hc
    cases r with
    | nil => exact none_ne hs
    | @cons v vs d ds' rv rs =>
      refine wpAny_assignInOrder_more (wpAny_assign_Name (st_store (G := No) (va := .v d) S (.refl s) (fun a h => h.elim) hc.1 rv fun o' s' S' _ c => ?_))
      exact st_names hc.2 S' (c.rpl rs) hs fun o'' s'' S'' c' => h o'' s'' S'' (c.trans c')

theorem setVs_len : ∀ {is : List Nat} {ds : List PyData} {ρ ρ' : Rho}, setVs is ds ρ = some ρ' → is.length = ds.length
  | [], [], _, _, _ => rfl
  | i :: is, d :: ds, ρ, ρ', h => by
    simp only [setVs] at h
    simp [setVs_len h]
  | [], _ :: _, _, _, h => by simp [setVs] at h
  | _ :: _, [], _, _, h => by simp [setVs] at h

theorem extNx {h' : Heap} (k : Heap.ExtBut s.heap.objs.size s.heap h') : Nx hb s { s with heap := h' } :=
  ⟨rfl, .strict fun b ob e => k b ob (Nat.ne_of_lt (Heap.lt_size e)) e, id⟩

theorem st_unpack {E : Value → Shared → Prop} {Q : Unit → Shared → Prop} {is : List Nat} {ps : List Expr} {k : Nat} {tp : Pos} {v : Value} {ds : List PyData} (hh : A.handled = none) (hc : wfN Γ is = true) (S : SS prog w hb A Γ env Xc s₀ No ρ o s)
    (r : Rp prog w s.heap (fun a => ¬ XX Xc No env ρ o a) v (.tuple ds)) (hs : setVs is ds ρ = some ρ') (h : ∀ o' s', SS prog w hb A Γ env Xc s₀ No ρ' o' s' → Ch hb env No ρ o s ρ' o' s' → Q () s') :
    wpAny (model prog w) A (assign (.Tuple (rbN Γ is ps) k tp) env v) Q E s := by
  cases r with
  | @tuple l vs nn _ p g hl rl =>
    obtain ⟨e1, e2⟩ := names_each (Γ := Γ) (env := env) (is := is) (ps := ps)
    refine wpAny_assign_Tuple hh (items := vs.toArray) ⟨_, g, rfl, nn, rfl⟩ (by rw [e1, setVs_len hs, List.size_toArray, rl.length]) e2 fun h' hk => ?_
    have n1 : Nx hb s { s with heap := h' } := extNx hk
    have e3 : (vs.toArray).toList = vs := rfl
    rw [e3]
    exact st_names hc (S.nx n1) (rl.kp n1.kp) hs fun o' s' S' c => h o' s' S' ((Ch.nx n1).trans c)

theorem st_assignT {is : List Nat} {ps : List Expr} {k : Nat} {tp pos : Pos} {p : Expr} {r : R PyData} {fr : Bool} (hh : A.handled = none) (hc : wfN Γ is = true) (hp : isCallE p = true)
    (he : ∀ o s, SS prog w hb A Γ env Xc s₀ No ρ o s → EOk prog w hb cO A (XX Xc No env ρ o) fr s (eval p env) r) :
    StOk prog w hb cO A Γ env Xc s₀ ρ (exec (.Assign [.Tuple (rbN Γ is ps) k tp] p pos) env) (r.out ρ fun d => match d with
      | .tuple ds => (match setVs is ds ρ with | some ρ' => .next ρ' | none => .stuck)
      | _ => .stuck) := by
  intro o s S hr Q E hn hret hretF hexc
  have hp' : ∃ f as kw cp, p = .Call f as kw cp := by
    cases p with
    | Call f as kw cp => exact ⟨_, _, _, _, rfl⟩
    | _ => exact ff_ne hp
  obtain ⟨f, as, kw, cp, rfl⟩ := hp'
  refine Assign_Tuple (he o s S (out_ne hr) _ _ (fun v s₁ d e n1 q _ => ?_) fun e s' k ek fl => hexc e s' k ρ o s (out_exc ek) S .refl fl.fl)
  rw [out_ok e] at hn hr
  cases d with
  | tuple ds =>
    simp only at hn hr
    cases hs : setVs is ds ρ with
    | none => rw [hs] at hr; exact absurd rfl hr
    | some ρ' =>
      rw [hs] at hn
      exact st_unpack hh hc (S.nx n1) q hs fun o' s' S' c => hn _ o' s' rfl S' ((Ch.nx n1).trans c)
  | _ => exact absurd rfl hr

theorem st_setItem {x : Nat} {y : Str} {py sp pos : Pos} {k v : Expr} {rv rk : R PyData} {f1 f2 : Bool} (hx : Γ.isVar x y = true)
    (hv : ∀ o s, SS prog w hb A Γ env Xc s₀ No ρ o s → EOk prog w hb cO A (XX Xc No env ρ o) f1 s (eval v env) rv) (hk : ∀ o s, SS prog w hb A Γ env Xc s₀ No ρ o s → EOk prog w hb cO A (XX Xc No env ρ o) f2 s (eval k env) rk) :
    StOk prog w hb cO A Γ env Xc s₀ ρ (exec (.Assign [.Subscript (.Name y py) k sp] v pos) env) (rv.out ρ fun d => match ρ[x]? with
      | some (.own ds) => rk.out ρ fun i => (match setListD ds i d with | some ds' => .next (ρ.set x (.own ds')) | none => .stuck)
      | _ => .stuck) := by
  intro o s S hr Q E hn hret hretF hexc
  refine wpAny_Assign_Subscript (hv o s S (out_ne hr) _ _ (fun a s₁ d e n1 q _ => ?_) fun e s' k ek fl => hexc e s' k ρ o s (out_exc ek) S .refl fl.fl) (swaps_sub _ _ _ _ _)
  rw [out_ok e] at hn hr hexc hret hretF
  have S₁ := S.nx n1
  cases hρ : ρ[x]? with
  | none => rw [hρ] at hr; exact absurd rfl hr
  | some va =>
    rw [hρ] at hr hn hexc
    cases va with
    | own ds =>
      simp only at hr hn hexc
      obtain ⟨u, q1, q2⟩ := S₁.vars x y _ hx hρ (by simp)
      have q2' : u = .ref (o x) := q2
      subst q2'
      refine S₁.se.var_kind (isVar_debug hx) q1 ?_
      refine hk o s₁ S₁ (out_ne hr) _ _ (fun b s₂ db e2 n2 q2 nlx => ?_) fun e s' k ek fl => hexc e s' k ρ o s₁ (out_exc ek) S₁ (.nx n1) fl.fl
      rw [out_ok e2] at hn hr
      have S₂ := S₁.nx n2
      cases hs : setListD ds db d with
      | none => rw [hs] at hr; exact absurd rfl hr
      | some ds' =>
        rw [hs] at hn
        unfold setListD at hs
        split at hs
        · rename_i j
          split at hs
          · rename_i hj
            cases hs
            clear nlx
            cases q2 with
            | int _ t =>
              obtain ⟨_, vs, m, g, l, r⟩ := S₂.own x ds hρ
              have e3 := r.length
              refine setItem_plain g hj.1 (by rw [e3]; exact hj.2) (by rw [e3]; exact l) fun h' g' hs' => ?_
              obtain ⟨S₃, k3, o3⟩ := S₂.change (s' := { s₂ with heap := h' }) (ds' := ds.set j.toNat d) hρ rfl rfl (fun b ob q e => hs'.extBut b ob q e) g' (by rw [List.length_set]; exact l) (r.set (q.kp n2.kp) j.toNat)
              refine hn _ o _ rfl S₃ ⟨?_, fun a h => .inl (o3 a h), fun a h => ?_⟩
              · exact KpB.trans (n1.trans n2).kp.b ⟨fun a ob nn => k3.low a ob fun z => nn (.inl z), fun a ob nn => k3.ex a ob fun z => nn (.inl z), fun a ob nn => k3.fr a ob fun z => nn (.inl z)⟩
              · have h2 := (n1.trans n2).kp.some h
                show h'.get? a ≠ none
                by_cases z : a = o x
                · rw [z, g']; simp
                · cases y : s₂.heap.get? a with
                  | none => exact absurd y h2
                  | some ob => rw [hs'.extBut a ob z y]; simp
          · cases hs
        · cases hs
    | _ => exact absurd rfl hr

theorem st_append {x : Nat} {y : Str} {py ap cp pos : Pos} {v : Expr} {rv : R PyData} {f1 : Bool} (hx : Γ.isVar x y = true) (hline : (ap.endLine == cp.line) = true) (hst : [v].all noStar = true)
    (hv : ∀ o s, SS prog w hb A Γ env Xc s₀ No ρ o s → EOk prog w hb cO A (XX Xc No env ρ o) f1 s (eval v env) rv) :
    StOk prog w hb cO A Γ env Xc s₀ ρ (exec (.Expr (.Call (.Attribute (.Name y py) "append" ap) [v] [] cp) pos) env) (match ρ[x]? with
      | some (.own _) => rv.out ρ fun d => (match ρ[x]? with
        | some (.own ds) => if ds.length < 1048576 then .next (ρ.set x (.own (ds ++ [d]))) else .stuck
        | _ => .stuck)
      | _ => .stuck) := by
  intro o s S hr Q E hn hret hretF hexc
  cases hρ : ρ[x]? with
  | none => rw [hρ] at hr; exact absurd rfl hr
  | some va =>
    rw [hρ] at hr hn hexc
    cases va with
    | own ds =>
      simp only at hr hn hexc
      have htr : backTo cp (starEach [v] env) = [(false, eval v env)] := backTo_plain cp env [v] hst
      refine wpAny_Expr_any (wpAny_Call_append rfl ?_ hline htr ?_) (by unfold interactive; rw [S.kind]; rfl)
      · rw [htr]; rfl
      obtain ⟨u, q1, q2⟩ := S.vars x y _ hx hρ (by simp)
      have q2' : u = .ref (o x) := q2
      subst q2'
      obtain ⟨_, vs, m, g, l, r⟩ := S.own x ds hρ
      refine S.se.var_kind (isVar_debug hx) q1 ⟨o x, vs.toArray, rfl, ⟨_, m, g, rfl, rfl, rfl⟩, ?_⟩
      refine hv o s S (out_ne hr) _ _ (fun a s₁ d e n1 q _ => ?_) fun e s' k ek fl => hexc e s' k ρ o s (out_exc ek) S .refl fl.fl
      rw [out_ok e] at hn hr
      have hlt : ds.length < 1048576 := by
        by_cases z : ds.length < 1048576
        · exact z
        · simp only [z, if_false] at hr; exact absurd rfl hr
      simp only [hlt, if_true] at hn
      have S₁ := S.nx n1
      obtain ⟨_, vs, m, g, l, r⟩ := S₁.own x ds hρ
      refine wpAny_list_append_plain (items := vs.toArray) ⟨m, g⟩ (fun h' hp' hs' => ?_) (by
        have := r.length
        rw [List.size_toArray, this]; exact size_lim l)
      obtain ⟨m', g'⟩ := hp'
      have g'' : h'.get? (o x) = some { cls := .type "list", data := .seq (vs ++ [a]).toArray m' } := by simpa using g'
      obtain ⟨S₃, k3, o3⟩ := S₁.change (s' := { s₁ with heap := h' }) (ds' := ds ++ [d]) hρ rfl rfl (fun b ob q e => hs'.extBut b ob q e) g'' (by rw [List.length_append, LIM_eq]; simp only [List.length_cons, List.length_nil]; omega) (r.append (.cons q .nil))
      refine hn _ o _ rfl S₃ ⟨?_, fun a h => .inl (o3 a h), fun b h => ?_⟩
      · exact KpB.trans n1.kp.b ⟨fun a ob nn => k3.low a ob fun z => nn (.inl z), fun a ob nn => k3.ex a ob fun z => nn (.inl z), fun a ob nn => k3.fr a ob fun z => nn (.inl z)⟩
      · have h2 := n1.kp.some h
        show h'.get? b ≠ none
        by_cases z : b = o x
        · rw [z, g'']; simp
        · cases y : s₁.heap.get? b with
          | none => exact absurd y h2
          | some ob => rw [hs'.extBut b ob z y]; simp
    | _ => exact absurd rfl hr

theorem st_drop {pos : Pos} {p : Expr} {r : R PyData} {fr : Bool} (hp : isCallE p = true) (he : ∀ o s, SS prog w hb A Γ env Xc s₀ No ρ o s → EOk prog w hb cO A (XX Xc No env ρ o) fr s (eval p env) r) :
    StOk prog w hb cO A Γ env Xc s₀ ρ (exec (.Expr p pos) env) (r.out ρ fun _ => .next ρ) := by
  intro o s S hr Q E hn hret hretF hexc
  refine wpAny_Expr_any (he o s S (out_ne hr) _ _ (fun v s₁ d e n1 q _ => ?_) fun e s' k ek fl => hexc e s' k ρ o s (out_exc ek) S .refl fl.fl) (by unfold interactive; rw [S.kind]; rfl) (swaps_no (by cases p <;> simp [isCallE] at hp; rfl) _ _)
  rw [out_ok e] at hn
  exact hn ρ o s₁ rfl (S.nx n1) (.nx n1)

theorem st_if {c : Expr} {a b : List Stmt} {pos : Pos} {r : R PyData} {oa ob : Out} (hc : ∀ o s, SS prog w hb A Γ env Xc s₀ No ρ o s → TOk prog w hb cO A s (isTrue c env (eval c env)) r)
    (ha : StOk prog w hb cO A Γ env Xc s₀ ρ (execs a env) oa) (hb' : StOk prog w hb cO A Γ env Xc s₀ ρ (execs b env) ob) :
    StOk prog w hb cO A Γ env Xc s₀ ρ (exec (.If c a b pos) env) (r.out ρ fun x => match x with
      | .bool true => oa
      | .bool false => ob
      | _ => .stuck) := by
  intro o s S hr Q E hn hret hretF hexc
  have hbool : ∀ d, r = .ok d → ∃ b, d = .bool b := by
    intro d e
    rw [out_ok e] at hr
    cases d with
    | bool b => exact ⟨b, rfl⟩
    | _ => exact absurd rfl hr
  refine wpAny_If (hc o s S hbool (out_ne hr) _ _ (fun x s₁ e n1 => ?_) fun e s' k ek fl => hexc e s' k ρ o s (out_exc ek) S .refl fl.fl)
  rw [out_ok e] at hn hr hret hretF hexc
  cases x with
  | true => exact ha o s₁ (S.nx n1) hr Q E (fun ρ' o' s' e S' c => hn ρ' o' s' e S' ((Ch.nx n1).trans c)) hret hretF fun e s' k ρ' o' s₁ ek S' c fl => hexc e s' k ρ' o' s₁ ek S' ((Ch.nx n1).trans c) fl
  | false => exact hb' o s₁ (S.nx n1) hr Q E (fun ρ' o' s' e S' c => hn ρ' o' s' e S' ((Ch.nx n1).trans c)) hret hretF fun e s' k ρ' o' s₁ ek S' c fl => hexc e s' k ρ' o' s₁ ek S' ((Ch.nx n1).trans c) fl

theorem SS.nx0 (S : SS prog w hb A Γ env Xc s₀ G ρ o s) : Nx hb s₀ s := ⟨S.os, S.kp, fun _ => S.bare⟩

theorem st_ret_plain {p : Expr} {pos : Pos} {r : R PyData} {fr : Bool} (he : ∀ o s, SS prog w hb A Γ env Xc s₀ No ρ o s → EOk prog w hb cO A (XX Xc No env ρ o) fr s (eval p env) r) :
    StOk prog w hb cO A Γ env Xc s₀ ρ (exec (.Return (some p) pos) env) (r.out ρ fun d => .ret d) := by
  intro o s S hr Q E hn hret hretF hexc
  refine wpAny_Return_some (he o s S (out_ne hr) _ _ (fun v s₁ d e n1 q _ => ?_) fun e s' k ek fl => hexc e s' k ρ o s (out_exc ek) S .refl fl.fl)
  rw [out_ok e] at hret
  exact hret v s₁ d rfl (S.nx n1).nx0 (q.mono fun a z h => z (.inl h))
theorem st_ret_own {i : Nat} {x : Str} {px pos : Pos} (hi : Γ.isVar i x = true) : StOk prog w hb cO A Γ env Xc s₀ ρ (exec (.Return (some (.Name x px)) pos) env) ((getOwn ρ i).out ρ fun d => .ret d) := by
  intro o s S hr Q E hn hret hretF hexc
  unfold getOwn at hr hret
  split at hr
  · rename_i ds hρ
    rw [hρ] at hret
    obtain ⟨u, q1, q2⟩ := S.vars i x _ hi hρ (by simp)
    have q2' : u = .ref (o i) := q2
    subst q2'
    obtain ⟨hnew, vs, m, g, l, r⟩ := S.own i ds hρ
    exact wpAny_Return_some (S.se.var_kind (isVar_debug hi) q1 (hret _ s _ rfl S.nx0 (.list (fun h => S.xc _ h hnew) g l (r.mono fun a z h => z (.inl h)))))
  · exact absurd rfl hr

end
end Mine

-- M29
namespace Mine
open PySem PySem.Calls PyProof.Rows

section
variable {prog : Program} {w : World} {hb : Heap} {cO : Addr} {A : Around} {Γ : Sc} {env : Env} {Xc G : Addr → Prop} {s₀ : Shared} {ρ ρ' ρ'' : Rho} {o o' o'' : Nat → Addr} {s s' s'' s₁ : Shared} {T : Tb} {F : FT} {n : Nat}

theorem st_for {pre : PyData → Rho → Option Rho} {bodyOut : Rho → Out} {target it : Expr} {body : List Stmt} {pos : Pos} {src : R (List PyData)} (hset : isSetE it = false) (hsrc : ∀ o s, SS prog w hb A Γ env Xc s₀ No ρ o s → IOk prog w hb cO A (XX Xc No env ρ o) s (eval it env) src)
    (hassign : ∀ d v ρ1 ρ2 o1 s1, SS prog w hb A Γ env Xc s₀ No ρ1 o1 s1 → Rp prog w s1.heap (fun a => ¬ XX Xc No env ρ1 o1 a) v d → pre d ρ1 = some ρ2 → ∀ (Q : Unit → Shared → Prop) (E : Value → Shared → Prop),
      (∀ o2 s2, SS prog w hb A Γ env Xc s₀ No ρ2 o2 s2 → Ch hb env No ρ1 o1 s1 ρ2 o2 s2 → Q () s2) → wpAny (model prog w) A (assign target env v) Q E s1)
    (hbody : ∀ ρ2, StOk prog w hb cO A Γ env Xc s₀ ρ2 (execs body env) (bodyOut ρ2))
    (htup : ∀ (I : Addr) (v : Value) (s1 : Shared) (oI : Obj) (Tn : String) (Q : Unit → Shared → Prop) (E : Value → Shared → Prop), s1.heap.get? I = some oI → oI.cls = .type Tn → itOk Tn = true → Q () s1 → wpAny (model prog w) A (letOwnedTupleGo target (.ref I) v) Q E s1) :
    StOk prog w hb cO A Γ env Xc s₀ ρ (exec (.For target it body [] pos) env) (src.out ρ fun xs => forL (fun d ρ => match pre d ρ with | some ρ2 => bodyOut ρ2 | none => .stuck) xs ρ) := by
  intro o s S hr Q E hn hret hretF hexc
  refine wpAny_For (hsrc o s S (out_ne hr) _ _ (fun I s₂ ds e n2 hlen hI0 hit => ?_) fun e s' k ek fl => hexc e s' k ρ o s (out_exc ek) S .refl fl.fl) (set_folded hset)
  obtain ⟨fp, P, St, W, st0, hfp, ⟨oI, hoI, ⟨hI1, hI3, hI4⟩, hI5⟩, hXI, hStI, hitem⟩ := hit
  rw [out_ok e] at hn hr hret
  generalize hturn : (fun (d : PyData) (ρ : Rho) => match pre d ρ with | some ρ2 => bodyOut ρ2 | none => Out.stuck) = turn at hn hr hret
  have S₂ := S.nx n2
  have hIs₀ : s₀.heap.get? I = none := S.newS hI0
  have hIL : I ≠ env.locals := fun q => S.nn_in (.inl q) hI0
  have hIc : ∀ y, env.cells.lookup y ≠ some I := fun y q => S.nn_in (.inr (.inl ⟨y, q⟩)) hI0
  have notOwn : ∀ {ρ1 : Rho} {o1 : Nat → Addr} {s1 : Shared} {ob : Obj}, SS prog w hb A Γ env Xc s₀ No ρ1 o1 s1 → s1.heap.get? I = some ob → ¬ DtC ob.cls → ∀ j ds, ρ1[j]? = some (.own ds) → o1 j ≠ I := by
    intro ρ1 o1 s1 ob S1 e nd j ds hj q
    obtain ⟨_, vs, m, g, _⟩ := S1.own j ds hj
    rw [q, e] at g; cases g; exact nd (.inl rfl)
  have notNN : ∀ {ρ1 : Rho} {o1 : Nat → Addr} {s1 : Shared} {ob : Obj}, SS prog w hb A Γ env Xc s₀ No ρ1 o1 s1 → s1.heap.get? I = some ob → ¬ DtC ob.cls → ¬ (NN env ρ1 o1 I ∨ No I) := by
    rintro ρ1 o1 s1 ob S1 e nd ((q | ⟨y, q⟩ | ⟨j, ds, hj, q⟩) | q)
    · exact hIL q
    · exact hIc y q
    · exact notOwn S1 e nd j ds hj q
    · exact q
  have xxOf : ∀ {ρ1 : Rho} {o1 : Nat → Addr} {s1 : Shared}, Ch hb env (fun a => a = I) ρ o s₂ ρ1 o1 s1 → ∀ a, ¬ XX Xc No env ρ o a → s₂.heap.get? a ≠ none → ¬ XX Xc No env ρ1 o1 a := by
    rintro ρ1 o1 s1 c a h e (q | q | q | q | q)
    · exact h (.inl q)
    · exact q
    · exact h (.inr (.inr (.inl q)))
    · exact h (.inr (.inr (.inr (.inl q))))
    · rcases c.own a q with q | q
      · exact h (.inr (.inr (.inr (.inr q))))
      · exact e q
  have objOf : ∀ {ρ1 : Rho} {o1 : Nat → Addr} {s1 : Shared}, Ch hb env (fun a => a = I) ρ o s₂ ρ1 o1 s1 → ∀ a ob, ¬ XX Xc No env ρ o a → s₂.heap.get? a = some ob → DtC ob.cls → s1.heap.get? a = some ob ∧ a ≠ I := by
    intro ρ1 o1 s1 c a ob h e z
    have hne : a ≠ I := fun q => by rw [q, hoI] at e; cases e; exact hI4 z
    refine ⟨c.kp.obj a ob ?_ e z.ne, hne⟩
    rintro (q | q)
    · exact h (.inr (.inr q))
    · exact hne q
  refine codeAny_forLoop_any (fun k s' => ∃ j ρ1 o1, k = ds.length + 1 - j ∧ j ≤ ds.length ∧ SS prog w hb A Γ env Xc s₀ No ρ1 o1 s' ∧ St j s'.heap ∧ Ch hb env (fun a => a = I) ρ o s₂ ρ1 o1 s' ∧ forL turn (ds.drop j) ρ1 = forL turn ds ρ) ?_ (ds.length + 1)
    ⟨0, ρ, o, rfl, Nat.zero_le _, S₂, st0, .refl, by simp⟩
  rintro k s' ⟨j, ρ1, o1, rfl, hj, S1, st1, c1, hf⟩
  obtain ⟨oI', heI, hnf, _, hnd, Tn', hcl, hok⟩ := hStI j _ st1
  have hup : ∀ b ob, ¬ XX Xc No env ρ1 o1 b → s'.heap.get? b = some ob → DtC ob.cls → b ≠ I := fun b ob _ e z q => by rw [q, heI] at e; cases e; exact hnd z
  rcases Nat.lt_or_ge j ds.length with hlt | hge
  · refine W.item j s' _ _ hlt st1 fun v h₁ tk hv hst₁ hk₁ => ?_
    have hd : ds[j]? = some ds[j] := List.getElem?_eq_getElem hlt
    generalize ds[j] = d at hd
    have hdrop : ds.drop j = d :: ds.drop (j + 1) := by
      rw [List.drop_eq_getElem_cons hlt]
      congr 1
      rw [List.getElem?_eq_getElem hlt] at hd
      exact Option.some.inj hd
    rw [hdrop] at hf
    have keep1 : ∀ b ob, b ≠ I → s'.heap.get? b = some ob → h₁.get? b = some ob := fun b ob hb e => hk₁ b ob (by simpa using hb) e
    obtain ⟨oI2, heI2, hnf2, _, hnd2, Tn2, hcl2, hok2⟩ := hStI (j + 1) _ hst₁
    have S1' : SS prog w hb A Γ env Xc s₀ No ρ1 o1 { s' with heap := h₁, toks := tk } :=
      S1.moved (I := I) (G' := No) (fun _ h => h) rfl rfl keep1 hup (notOwn S1 heI hnd) hIs₀ (fun h => h.elim) hIL hIc
    have c1' : Ch hb env (fun a => a = I) ρ o s₂ ρ1 o1 { s' with heap := h₁, toks := tk } := by
      refine c1.trans ⟨.strict fun b ob q e => keep1 b ob (fun z => q (.inr z)) e, fun a h => .inl h, fun a h => ?_⟩
      show h₁.get? a ≠ none
      by_cases z : a = I
      · rw [z, heI2]; simp
      · cases y : s'.heap.get? a with
        | none => exact absurd y h
        | some ob => rw [keep1 a ob z y]; simp
    refine htup I v { s' with heap := h₁, toks := tk } oI2 Tn2 _ _ heI2 hcl2 hok2 ?_
    -- the item
    have rv : Rp prog w h₁ (fun a => ¬ XX Xc No env ρ1 o1 a) v d := by
      have r0 := hitem s₂.heap (fun _ _ _ e _ => e) j v hv d hd
      exact r0.there.to (fun a q => xxOf c1 a q.1 q.2.2) fun a ob q e z => by
        obtain ⟨e1, e2⟩ := objOf c1 a ob q.1 e z
        exact keep1 a ob e2 e1
    cases hpre : pre d ρ1 with
    | none =>
      exfalso
      have ht : turn d ρ1 = .stuck := by rw [← hturn]; simp only [hpre]
      rw [forL, ht] at hf
      exact hr hf.symm
    | some ρ2 =>
      refine hassign d v ρ1 ρ2 o1 { s' with heap := h₁, toks := tk } S1' rv hpre _ _ fun o2 s2 S2 c2 => ?_
      have ht : turn d ρ1 = bodyOut ρ2 := by rw [← hturn]; simp only [hpre]
      rw [forL, ht] at hf
      have hbs : bodyOut ρ2 ≠ .stuck := by
        intro q
        rw [q] at hf
        exact hr hf.symm
      refine hbody ρ2 o2 s2 S2 hbs _ _ (fun ρ3 o3 s3 e3 S3 c3 => ?_) (fun v s' d e3 n3 r3 => ?_) (fun v s' ns fs a b e3 _ _ => ?_) fun e s' k ρ' o' s₁ e3 _ _ _ => ?_
      · rw [e3] at hf
        have c23 := c2.trans c3
        refine ⟨ds.length + 1 - (j + 1), by omega, j + 1, ρ3, o3, rfl, hlt, S3, W.frame _ _ _ hst₁ (fun b hb' ob e => ?_), c1'.trans ⟨⟨fun a ob q => c23.kp.low a ob ?_, fun a ob q => c23.kp.ex a ob ?_, fun a ob q => c23.kp.fr a ob ?_⟩, c23.own, c23.stay⟩, hf⟩
        · rcases hfp b hb' with rfl | ⟨hx, ob', e', z⟩
          · rw [heI2] at e; cases e
            exact c23.kp.obj _ _ (notNN S1' heI2 hnd2) heI2 hnf2
          · obtain ⟨e1, e2⟩ := objOf c1 b ob' hx e' z
            have e1' := keep1 b ob' e2 e1
            rw [e1'] at e; cases e
            exact c23.up (xxOf c1 b hx (by rw [e']; simp)) e1' z
        all_goals
          rintro (z | z)
          · exact q (.inl z)
          · exact z.elim
      · rw [e3] at hf
        exact hret v s' d hf.symm n3 r3
      · rw [e3] at hf
        exact absurd hf.symm hr
      · rw [e3] at hf
        exact absurd hf.symm hr
  · have hj' : j = ds.length := Nat.le_antisymm hj hge
    subst hj'
    rw [List.drop_length, forL] at hf
    refine W.done s' _ _ st1 fun h' tk hk' => ?_
    have keep1 : ∀ b ob, b ≠ I → s'.heap.get? b = some ob → h'.get? b = some ob := fun b ob hb e => hk' b ob (by simpa using hb) e
    refine wpAny_execs_nil ?_
    have S1' : SS prog w hb A Γ env Xc s₀ No ρ1 o1 { s' with heap := h', toks := tk } :=
      S1.moved (I := I) (G' := No) (fun _ h => h) rfl rfl keep1 hup (notOwn S1 heI hnd) hIs₀ (fun h => h.elim) hIL hIc
    have hne : ∀ a, s.heap.get? a ≠ none → a ≠ I := fun a h z => h (z ▸ hI0)
    have some_of : ∀ {a : Addr} {ob : Obj}, s.heap.get? a = some ob → s.heap.get? a ≠ none := fun e => by rw [e]; simp
    have nI : ∀ a ob, s.heap.get? a = some ob → ¬ (NN env ρ o a ∨ No a) → ¬ (NN env ρ o a ∨ a = I) := by
      rintro a ob e q (z | z)
      · exact q (.inl z)
      · exact hne a (some_of e) z
    refine hn ρ1 o1 _ hf.symm S1' ⟨⟨fun a ob q b e => ?_, fun a ob q e z => ?_, fun a ob q e => ?_⟩, fun a h => ?_, fun a h => ?_⟩
    · exact keep1 a ob (hne a (some_of e)) (c1.kp.low a ob (nI a ob e q) b (n2.kp.low a ob b e))
    · exact keep1 a ob (hne a (some_of e)) (c1.kp.ex a ob (nI a ob e q) (n2.kp.ex a ob e z) z)
    · obtain ⟨sl, e1⟩ := n2.kp.fr a ob e
      obtain ⟨sl', e2⟩ := c1.kp.fr a _ (nI a ob e q) e1
      exact ⟨sl', keep1 a _ (hne a (some_of e)) e2⟩
    · rcases c1.own a h with q | q
      · exact .inl q
      · exact .inr (n2.kp.none q)
    · have h2 := c1.stay a (n2.kp.some h)
      cases y : s'.heap.get? a with
      | none => exact absurd y h2
      | some ob =>
        show h'.get? a ≠ none
        rw [keep1 a ob (hne a h) y]; simp

theorem st_while {c : Expr} {body : List Stmt} {pos : Pos} {test : Rho → R PyData} {bodyOut : Rho → Out} (htest : ∀ ρ o s, SS prog w hb A Γ env Xc s₀ No ρ o s → TOk prog w hb cO A s (isTrue c env (eval c env)) (test ρ))
    (hbody : ∀ ρ2, StOk prog w hb cO A Γ env Xc s₀ ρ2 (execs body env) (bodyOut ρ2)) (fuel : Nat) :
    StOk prog w hb cO A Γ env Xc s₀ ρ (exec (.While c body [] pos) env) (whl test bodyOut fuel ρ) := by
  intro o s S hr Q E hn hret hretF hexc
  refine wpAny_While (codeAny_whileLoop (fun k s' => ∃ ρ1 o1, SS prog w hb A Γ env Xc s₀ No ρ1 o1 s' ∧ Ch hb env No ρ o s ρ1 o1 s' ∧ whl test bodyOut k ρ1 = whl test bodyOut fuel ρ) ?_ fuel ⟨ρ, o, S, .refl, rfl⟩)
  rintro k s' ⟨ρ1, o1, S1, c1, hf⟩
  cases k with
  | zero => exact absurd hf.symm hr
  | succ k =>
    rw [whl] at hf
    have ht : test ρ1 ≠ .stuck := by
      intro q
      rw [q] at hf
      exact hr hf.symm
    have hbool : ∀ d, test ρ1 = .ok d → ∃ b, d = .bool b := by
      intro d q
      rw [q] at hf
      cases d with
      | bool b => exact ⟨b, rfl⟩
      | _ => exact absurd hf.symm hr
    refine htest ρ1 o1 s' S1 hbool ht _ _ (fun b s₂ e n2 => ?_) fun e s' k ek fl => by rw [ek] at hf; exact absurd hf.symm hr
    rw [e] at hf
    cases b with
    | false =>
      simp only [Bool.false_eq_true, if_false] at hf ⊢
      exact wpAny_execs_nil (hn ρ1 o1 s₂ hf.symm (S1.nx n2) (c1.trans (.nx n2)))
    | true =>
      simp only [if_true] at hf ⊢
      have hbs : bodyOut ρ1 ≠ .stuck := by
        intro q
        rw [q] at hf
        exact hr hf.symm
      refine hbody ρ1 o1 s₂ (S1.nx n2) hbs _ _ (fun ρ3 o3 s3 e3 S3 c3 => ?_) (fun v s' d e3 n3 r3 => ?_) (fun v s' ns fs a b e3 _ _ => ?_) fun e s' k ρ' o' s₁ e3 _ _ _ => ?_
      · rw [e3] at hf
        exact ⟨k, Nat.lt_succ_self _, ρ3, o3, S3, (c1.trans (.nx n2)).trans c3, hf⟩
      · rw [e3] at hf
        exact hret v s' d hf.symm n3 r3
      · rw [e3] at hf
        exact absurd hf.symm hr
      · rw [e3] at hf
        exact absurd hf.symm hr
end
end Mine

-- M30
namespace Mine
open PySem PySem.Calls PyProof.Rows

section
variable {prog : Program} {w : World} {hb : Heap} {cO : Addr} {A : Around} {Γ : Sc} {env : Env} {Xc : Addr → Prop} {s₀ : Shared} {ρ ρ' ρ'' : Rho} {o o' o'' : Nat → Addr} {s s' s'' s₁ : Shared} {T : Tb} {F : FT} {n : Nat}

theorem st_raise {k : Exk} {x : Str} {np cpos pos : Pos} {a : Expr} {r : R PyData} {fr : Bool} (G : GF prog w hb cO T F n) (hA : Room A n) (hx : Γ.isGlob x (excName k) = true) (hst : [a].all noStar = true)
    (he : ∀ o s, SS prog w hb A Γ env Xc s₀ No ρ o s → EOk prog w hb cO A (XX Xc No env ρ o) fr s (eval a env) r) :
    StOk prog w hb cO A Γ env Xc s₀ ρ (exec (.Raise (some (.Call (.Name x np) [a] [] cpos)) none pos) env) (r.out ρ fun d => match d with | .str _ => .exc k ρ | _ => .stuck) := by
  intro o s S hr Q E hn hret hretF hexc
  have htr : backTo cpos (starEach [a] env) = [(false, eval a env)] := backTo_plain cpos env [a] hst
  have hpl : (backTo cpos (starEach [a] env)).any (·.1) = false := by rw [htr]; rfl
  cases k with
  | value =>
    refine wpAny_Raise_call PySem.F.excCall_ValueError PySem.F.excRaise_ValueError hA.2.2 hpl (S.se.blt hx G.value ⟨rfl, ?_⟩)
    rw [htr]
    refine evalArgs_plain (spliced_cons (he o s S (out_ne hr) _ _ (fun v s₁ d e n1 q _ => spliced_nil ⟨rfl, by rw [sizeLine_eq]; simp, fun h' e' hm => ?_⟩) fun e s' k ek fl => hexc e s' k ρ o s (out_exc ek) S .refl fl.fl))
    rw [out_ok e] at hr hexc
    cases d with
    | str z =>
      obtain ⟨t, ht, _⟩ := hm.there
      exact hexc e' _ .value ρ o s₁ rfl (S.nx n1) (.nx n1) ⟨.heap' hm.keeps, hm.new, _, _, ht, rfl, rfl, .inl rfl⟩
    | _ => exact absurd rfl hr
  | oom =>
    obtain ⟨mg, hmg, O⟩ := G.oomC
    obtain ⟨bm, N, nm, q, bs, hdct, sn, sub, ab, col, dd, k0, k1, k2, k3, k5, mN, hC, hN, hni, TL⟩ := O.obj
    refine wpAny_Raise_call_subT PySem.F.excBase_Exception (bm := bm) (C := cO) (nm := nm) (q := q) (N := N) (bs := bs) (hdct := hdct) (sn := sn) (sub := sub) (ab := ab) (col := col) (dd := dd) (k0 := k0) (k1 := k1) (k2 := k2) (k3 := k3) (k5 := k5) (TL.hasType (by decide)) hA.2.2 hpl hni (S.se.glob hx G.oom ⟨rfl, ?_⟩)
    rw [htr]
    refine evalArgs_plain (spliced_cons (he o s S (out_ne hr) _ _ (fun v s₁ d e n1 q _ => spliced_nil ?_) fun e s' k ek fl => hexc e s' k ρ o s (out_exc ek) S .refl fl.fl))
    rw [out_ok e] at hr hexc
    have st := (S.nx n1).se.stays
    refine ⟨rfl, by rw [sizeLine_eq]; simp, st _ _ hC, hN.keeps st, TL.keeps st, fun h' e' hm => ?_⟩
    cases d with
    | str z =>
      obtain ⟨t, ht, _⟩ := hm.there
      exact hexc e' _ .oom ρ o s₁ rfl (S.nx n1) (.nx n1) ⟨.heap' hm.keeps, hm.new, _, _, ht, rfl, rfl, .inl rfl⟩
    | _ => exact absurd rfl hr

theorem const_ok {M : Model} {A' : Around} {Ex : Value → Shared → Prop} {Q : Value → Shared → Prop} {c : E} {p : Expr} {P : Addr → Prop} (hc : isConstE c = true) (h : wf T Γ c p = true)
    (hQ : ∀ v s' d, ev F ρ none c = .ok d → Nx hb s s' → Rp prog w s'.heap P v d → Q v s') : wpAny M A' (eval (rb T Γ c p) env) Q Ex s ∧ swapsNo (rb T Γ c p) = true := by
  cases c with
  | none => exact ⟨wpAny_Constant_none (hQ _ s _ rfl (.refl _) .none), rfl⟩
  | bool b => exact ⟨wpAny_Constant_bool (hQ _ s _ rfl (.refl _) (.bool b)), rfl⟩
  | str x =>
    have h := Bool.and_eq_true_iff.mp h
    have hl := of_decide_eq_true h.1
    exact ⟨wpAny_Constant_str (hQ _ _ _ rfl (.toks _ _) (.str x _ h.2 (by rw [LIM_eq]; omega))), rfl⟩
  | _ => exact ff_ne hc

noncomputable def tryOut (F : FT) (k : Exk) (xv : Nat) (c : E) : Out → Out
  | .exc k' ρ' => if exkOk k' k then (ev F ρ' .none c).out ρ' (fun d => .next (setV ρ' xv d)) else .stuck
  | o => o
theorem st_try {k : Exk} {xv : Nat} {x y : Str} {np hp py ap pos : Pos} {b : List Stmt} {cst : Expr} {c : E} {out : Out} (G : GF prog w hb cO T F n) (hx : Γ.isGlob x (excName k) = true) (hy : Γ.isVar xv y = true) (hc : isConstE c = true) (hcc : wf T Γ c cst = true)
    (hbody : StOk prog w hb cO A Γ env Xc s₀ ρ (execs b env) out) :
    StOk prog w hb cO A Γ env Xc s₀ ρ (exec (.Try b [.ExceptHandler (some (.Name x np)) none [.Assign [.Name y py] (rb T Γ c cst) ap] hp] [] [] pos) env) (tryOut F k xv c out) := by
  intro o s S hr Q E hn hret hretF hexc
  have hos : out ≠ .stuck := by rintro rfl; exact hr rfl
  refine wpAny_Try_except (hbody o s S hos _ _ (fun ρ' o' s' e S' c => ?_) (fun v s' d e n1 r1 => ?_) (fun v s' ns fs a b e n1 r1 => ?_) fun e s' k' ρ' o' s₁ ek S' ch fl => ?_)
  · subst e
    exact wpAny_execs_nil (hn ρ' o' s' rfl S' c)
  · subst e
    exact hret v s' d rfl n1 r1
  · subst e
    exact hretF v s' ns fs a b rfl n1 r1
  · subst ek
    simp only [tryOut] at hr hn hexc
    have hkk : exkOk k' k = true := by
      cases q : exkOk k' k with
      | true => rfl
      | false => rw [q] at hr; simp at hr
    rw [hkk] at hr hn
    simp only [if_true] at hr hn
    have hk : k' = k := by cases k' <;> cases k <;> first | rfl | (simp [exkOk] at hkk)
    subst hk
    obtain ⟨outer, htop⟩ := S'.top
    have Sf := S'.nx fl.1
    refine notes htop S'.frame (S'.kp.stays S'.stays) Sf.stk (fun b hb => .inr (S'.stk.2 b hb)) fl fun s₂ f2 => ?_
    have S2 := S'.nx f2.1
    -- the suite
    have suite : ∀ (A' : Around) (E' : Value → Shared → Prop) (s₃ : Shared), Flown hb s₁ s₃ e (exCls cO k') → wpAny (model prog w) A' (execs [.Assign [.Name y py] (rb T Γ c cst) ap] env) Q E' s₃ := by
      intro A' E' s₃ f3
      have S3 := S'.nx f3.1
      refine wpAny_execs_cons ?_
      have hq : ∀ v s₄ d, ev F ρ' none c = .ok d → Nx hb s₃ s₄ → Rp prog w s₄.heap (fun a => ¬ XX Xc No env ρ' o' a) v d → wpAny (model prog w) A' (storeName env y v) (fun _ s' => wpAny (model prog w) A' (execs [] env) Q E' s') E' s₄ := by
        intro v s₄ d ed n4 r4
        refine st_store (G := No) (va := .v d) S3 n4 (fun a h => h.elim) hy r4 fun o5 s5 S5 _ c5 => wpAny_execs_nil ?_
        rw [out_ok ed] at hn
        exact hn _ o5 s5 rfl S5 ((ch.trans (.nx f3.1)).trans c5)
      obtain ⟨hw, hsw⟩ := const_ok (M := model prog w) (A' := A') (Ex := E') (env := env) hc hcc hq
      exact wpAny_Assign_Name hw (swaps_no hsw _ _)
    obtain ⟨n2, hen, oe, vs, TT, oT, ts, he, hcls, hd, rest⟩ := id f2
    cases k' with
    | value =>
      refine wpAny_handleBy_builtin (X := "ValueError") (T := "ValueError") (b := true) PySem.F.isExc_ValueError PySem.F.notTuple_ValueError PySem.F.self_ValueError (S2.se.blt hx G.value ⟨rfl, ⟨oe, he, hcls⟩, ?_⟩)
      simp only [if_true]
      exact landed f2 fun s₃ f3 => suite _ _ s₃ f3
    | oom =>
      refine wpAny_handleBy_cons (codeAny_handlers_test (S2.se.glob hx G.oom ?_)) (by intro q; cases q)
      obtain ⟨mg, hmg, O⟩ := G.oomC
      obtain ⟨bm, N, nm, q, bs, hdct, sn, sub, ab, col, dd, k0, k1, k2, k3, k5, mN, hC, hN, hni, TL⟩ := (O.keeps S2.se.stays).obj
      obtain ⟨hh, g, d, tk, os⟩ := s₂
      exact wpAny_excMatches_sub_self hC he hcls (TL.hasType (by decide)) (codeAny_handlers_suite (landed f2 fun s₃ f3 => suite _ _ s₃ f3))
end
end Mine

-- M31
namespace Mine
open PySem PySem.Calls PyProof.Rows

section
variable {prog : Program} {w : World} {hb : Heap} {cO : Addr} {A : Around} {Γ : Sc} {env : Env} {Xc G : Addr → Prop} {s₀ : Shared} {ρ ρ' ρ'' : Rho} {o o' o'' : Nat → Addr} {s s' s'' s₁ : Shared} {T : Tb} {F : FT} {n : Nat} {c : Option PyData} {X O : Addr → Prop}

theorem Ch.put (c : Ch hb env No ρ o s ρ' o' s') (k : KpB (NN env ρ' o') hb s'.heap s''.heap) (hown : ∀ a, Own ρ'' o'' a → Own ρ' o' a ∨ s.heap.get? a = none) (hst : ∀ a, s'.heap.get? a ≠ none → s''.heap.get? a ≠ none) : Ch hb env No ρ o s ρ'' o'' s'' := by
  have nn : ∀ a ob, ¬ (NN env ρ o a ∨ No a) → s.heap.get? a = some ob → ¬ NN env ρ' o' a := by
    rintro a ob q e (h | h | h)
    · exact q (.inl (.inl h))
    · exact q (.inl (.inr (.inl h)))
    · rcases c.own a h with h | h
      · exact q (.inl (.inr (.inr h)))
      · rw [h] at e; cases e
  refine ⟨⟨fun a ob q b e => k.low a ob (nn a ob q e) b (c.kp.low a ob q b e), fun a ob q e z => k.ex a ob (nn a ob q e) (c.kp.ex a ob q e z) z, fun a ob q e => ?_⟩, fun a h => ?_, fun a h => hst a (c.stay a h)⟩
  · obtain ⟨sl, z⟩ := c.kp.fr a ob q e
    obtain ⟨sl', z'⟩ := k.fr a _ (nn a ob q e) z
    exact ⟨sl', z'⟩
  · rcases hown a h with h | h
    · exact c.own a h
    · exact .inr h

end
end Mine

-- M32
namespace Mine
open PySem PySem.Calls PyProof.Rows

section
variable {prog : Program} {w : World} {hb : Heap} {cO : Addr} {A : Around} {Γ : Sc} {env : Env} {Xc : Addr → Prop} {s₀ : Shared} {ρ ρ' ρ'' : Rho} {o o' o'' : Nat → Addr} {s s' s'' s₁ : Shared} {T : Tb} {F : FT} {n : Nat}

noncomputable def seqOut (rest : Rho → Out) : Out → Out
  | .next ρ' => rest ρ'
  | o => o
theorem st_seq {p : Stmt} {ps : List Stmt} {out : Out} {restOut : Rho → Out} (h1 : StOk prog w hb cO A Γ env Xc s₀ ρ (exec p env) out) (h2 : ∀ ρ', StOk prog w hb cO A Γ env Xc s₀ ρ' (execs ps env) (restOut ρ')) :
    StOk prog w hb cO A Γ env Xc s₀ ρ (execs (p :: ps) env) (seqOut restOut out) := by
  intro o s S hr Q E hn hret hretF hexc
  have hos : out ≠ .stuck := by rintro rfl; exact hr rfl
  refine wpAny_execs_cons (h1 o s S hos _ _ (fun ρ' o' s' e S' c => ?_) (fun v s' d e n1 r1 => ?_) (fun v s' ns fs a b e n1 r1 => ?_) fun e s' k' ρ' o' s₁ ek S' ch fl => ?_)
  · subst e
    exact h2 ρ' o' s' S' hr Q E (fun ρ'' o'' s'' e S'' c' => hn ρ'' o'' s'' e S'' (c.trans c')) hret hretF fun e s' k ρ' o' s₁ ek S' c' fl => hexc e s' k ρ' o' s₁ ek S' (c.trans c') fl
  · subst e
    exact hret v s' d rfl n1 r1
  · subst e
    exact hretF v s' ns fs a b rfl n1 r1
  · subst ek
    exact hexc e s' k' ρ' o' s₁ rfl S' ch fl

theorem st_frz {x : Nat} {ps : List Stmt} {restOut : Rho → Out} (h2 : ∀ ρ', StOk prog w hb cO A Γ env Xc s₀ ρ' (execs ps env) (restOut ρ')) :
    StOk prog w hb cO A Γ env Xc s₀ ρ (execs ps env) (seqOut restOut (match ρ[x]? with | some (.own ds) => Out.next (ρ.set x (.v (.list ds))) | _ => .stuck)) := by
  intro o s S hr Q E hn hret hretF hexc
  cases hρ : ρ[x]? with
  | none => rw [hρ] at hr; exact absurd rfl hr
  | some va =>
    rw [hρ] at hr hn hret hretF hexc
    cases va with
    | own ds =>
      simp only [seqOut] at hr hn hret hretF hexc
      obtain ⟨S', own'⟩ := S.freeze hρ
      have c : Ch hb env No ρ o s (ρ.set x (.v (.list ds))) o s := ⟨.refl, fun a h => .inl (own' a h), fun a h => h⟩
      exact h2 _ o s S' hr Q E (fun ρ'' o'' s'' e S'' c' => hn ρ'' o'' s'' e S'' (c.trans c')) hret hretF fun e s' k ρ' o' s₁ ek S' c' fl => hexc e s' k ρ' o' s₁ ek S' (c.trans c') fl
    | _ => exact absurd rfl hr

theorem rb_swaps {e : E} {p : Expr} (hc : isCompE e = false) : swapsNo (rb T Γ e p) = true := by
  cases e with
  | comp _ _ => exact nomatch hc
  | compIf _ _ _ => exact nomatch hc
  | bop q l r => show swapsNo (match decide ((kids p).length ≤ 2) with | true => _ | false => _) = true; cases decide ((kids p).length ≤ 2) <;> rfl
  | _ => rfl

theorem swaps_comp (elt : Expr) (gens : List Comprehension) (sc : Scope) (pos : Pos) (t : Str) (tp : Pos) (l : Nat) : ∃ b, swapsWith (.ListComp elt gens sc pos) (some (.Name t tp)) l env = pure b := ⟨_, rfl⟩

theorem st_assign_comp {va : List PyData → VA} (hva : (va = fun ds => .v (.list ds)) ∨ (va = fun ds => .own ds)) {i : Nat} {y : Str} {py spos : Pos} {e : E} {p : Expr} (G : GF prog w hb cO T F n) (hA : Room A n) (hi : Γ.isVar i y = true) (hc : isCompE e = true) (h : wf T Γ e p = true)
    (hsw : swapsWith (rb T Γ e p) (some (.Name y py)) spos.line env = pure true) :
    StOk prog w hb cO A Γ env Xc s₀ ρ (exec (.Assign [.Name y py] (rb T Γ e p) spos) env) ((ev F ρ none e).out ρ fun d => match d with | .list ds => .next (ρ.set i (va ds)) | _ => .stuck) := by
  have fin : ∀ (eS eE : E) (p : PyData → R PyData), ev F ρ none e = ((evI F ρ none eS).bind (filterR p fun d => ev F ρ (some d) eE)).bind (fun ys => .ok (.list ys)) →
      ((ev F ρ none e).out ρ fun d => match d with | .list ds => .next (ρ.set i (va ds)) | _ => .stuck) = ((evI F ρ none eS).bind (filterR p fun d => ev F ρ (some d) eE)).out ρ fun ds => .next (ρ.set i (va ds)) := by
    intro eS eE p q
    rw [q]
    cases (evI F ρ none eS).bind (filterR p fun d => ev F ρ (some d) eE) <;> rfl
  cases e with
  | comp eE eS =>
    rw [fin eS eE (fun _ => .ok (.bool true)) (by
      rw [ev_comp]
      cases evI F ρ none eS with
      | ok xs => simp only [R.bind, mapR_filter]
      | exc k => rfl
      | stuck => rfl)]
    exact st_comp hva hi hsw (and_l h) rb_noSet (fun o s S => (main_E G hA eS Γ env ρ none _ _ s _ (and_r (and_r h)) S.se).2.2.1) (fun X O cl C D s₃ d _ => .nil) fun X O cl C D s₃ d S' => (main_E G hA eE _ _ ρ (some d) (X3 X C D) O s₃ _ (and_l (and_r h)) S').1
  | compIf eE eC eS =>
    rw [fin eS eE (fun d => ev F ρ (some d) eC) (by
      rw [ev_compIf]
      cases evI F ρ none eS <;> rfl)]
    exact st_comp hva hi hsw (and_l h) rb_noSet (fun o s S => (main_E G hA eS Γ env ρ none _ _ s _ (and_l (and_r (and_r h))) S.se).2.2.1) (fun X O cl C D s₃ d S' => FOk.one (main_E G hA eC _ _ ρ (some d) (X3 X C D) O s₃ _ (and_r (and_r (and_r h))) S').2.1) fun X O cl C D s₃ d S' => (main_E G hA eE _ _ ρ (some d) (X3 X C D) O s₃ _ (and_l (and_r h)) S').1
  | _ => exact ff_ne hc

theorem comp_list {e : E} (hc : isCompE e = true) {d : PyData} (h : ev F ρ none e = .ok d) : ∃ ds, d = .list ds := by
  cases e with
  | comp elt src =>
    rw [ev_comp] at h
    obtain ⟨xs, _, h⟩ := bind_eq_ok h
    obtain ⟨ys, _, h⟩ := bind_eq_ok h
    cases h
    exact ⟨ys, rfl⟩
  | compIf elt cond src =>
    rw [ev_compIf] at h
    obtain ⟨xs, _, h⟩ := bind_eq_ok h
    obtain ⟨ys, _, h⟩ := bind_eq_ok h
    cases h
    exact ⟨ys, rfl⟩
  | _ => exact ff_ne hc
end
end Mine

-- M33
namespace Mine
open PySem PySem.Calls PyProof.Rows

section
variable {prog : Program} {w : World} {hb : Heap} {cO : Addr} {A : Around} {T : Tb} {F : FT} {n : Nat}

noncomputable def PS (prog : Program) (w : World) (hb : Heap) (cO : Addr) (T : Tb) (F : FT) (A : Around) (st : S) : Prop :=
  ∀ Γ env Xc s₀ ρ p, wfS T Γ st p = true → StOk prog w hb cO A Γ env Xc s₀ ρ (exec (rbS T Γ st p) env) (evS F st ρ)
noncomputable def PSs (prog : Program) (w : World) (hb : Heap) (cO : Addr) (T : Tb) (F : FT) (A : Around) (sts : List S) : Prop :=
  ∀ Γ env Xc s₀ ρ ps, wfSs T Γ sts ps = true → StOk prog w hb cO A Γ env Xc s₀ ρ (execs (rbSs T Γ sts ps) env) (evSs F sts ρ)

theorem ss_assign (G : GF prog w hb cO T F n) (hA : Room A n) {Γ : Sc} {env : Env} {Xc : Addr → Prop} {s₀ : Shared} {ρ : Rho} {i : Nat} {e : E} {x : Str} {px pos : Pos} {v : Expr} (hx : Γ.isVar i x = true) (hv : wf T Γ e v = true) :
    StOk prog w hb cO A Γ env Xc s₀ ρ (exec (.Assign [.Name x px] (rb T Γ e v) pos) env) ((ev F ρ none e).out ρ fun d => .next (setV ρ i d)) := by
  have plain : swapsWith (rb T Γ e v) (some (.Name x px)) pos.line env = pure false → StOk prog w hb cO A Γ env Xc s₀ ρ (exec (.Assign [.Name x px] (rb T Γ e v) pos) env) ((ev F ρ none e).out ρ fun d => .next (setV ρ i d)) := fun hsw =>
    st_assign_plain hx hsw fun o s S => (main_E G hA e Γ env ρ none _ _ s v hv S.se).1
  cases hc : isCompE e with
  | false => exact plain (swaps_no (rb_swaps hc) _ _)
  | true =>
    obtain ⟨b, hb'⟩ : ∃ b, swapsWith (rb T Γ e v) (some (.Name x px)) pos.line env = pure b := by
      cases e with
      | comp _ _ => exact swaps_comp _ _ _ _ _ _ _
      | compIf _ _ _ => exact swaps_comp _ _ _ _ _ _ _
      | _ => exact ff_ne hc
    cases b with
    | false => exact plain hb'
    | true =>
      have := st_assign_comp (va := fun ds => .v (.list ds)) (.inl rfl) (i := i) (ρ := ρ) (F := F) (Xc := Xc) (s₀ := s₀) G hA hx hc hv hb'
      have e1 : ((ev F ρ none e).out ρ fun d => match d with | .list ds => .next (ρ.set i (.v (.list ds))) | _ => .stuck) = (ev F ρ none e).out ρ fun d => .next (setV ρ i d) := by
        cases q : ev F ρ none e with
        | ok d =>
          obtain ⟨ds, rfl⟩ := comp_list hc q
          rfl
        | exc k => rfl
        | stuck => rfl
      rw [← e1]; exact this
theorem ss_assignO (G : GF prog w hb cO T F n) (hA : Room A n) {Γ : Sc} {env : Env} {Xc : Addr → Prop} {s₀ : Shared} {ρ : Rho} {i : Nat} {e : E} {x : Str} {px pos : Pos} {v : Expr} (hx : Γ.isVar i x = true) (hv : wf T Γ e v = true) (hf : freshE e = true) :
    StOk prog w hb cO A Γ env Xc s₀ ρ (exec (.Assign [.Name x px] (rb T Γ e v) pos) env) ((ev F ρ none e).out ρ fun d => match d with | .list ds => .next (ρ.set i (.own ds)) | _ => .stuck) := by
  have plain : swapsWith (rb T Γ e v) (some (.Name x px)) pos.line env = pure false → StOk prog w hb cO A Γ env Xc s₀ ρ (exec (.Assign [.Name x px] (rb T Γ e v) pos) env) ((ev F ρ none e).out ρ fun d => match d with | .list ds => .next (ρ.set i (.own ds)) | _ => .stuck) := fun hsw =>
    st_assignO_plain hx hsw fun o s S => by
      have := (main_E G hA e Γ env ρ none _ _ s v hv S.se).1
      rw [hf] at this
      exact this
  cases hc : isCompE e with
  | false => exact plain (swaps_no (rb_swaps hc) _ _)
  | true =>
    obtain ⟨b, hb'⟩ : ∃ b, swapsWith (rb T Γ e v) (some (.Name x px)) pos.line env = pure b := by
      cases e with
      | comp _ _ => exact swaps_comp _ _ _ _ _ _ _
      | compIf _ _ _ => exact swaps_comp _ _ _ _ _ _ _
      | _ => exact ff_ne hc
    cases b with
    | false => exact plain hb'
    | true => exact st_assign_comp (va := fun ds => .own ds) (.inr rfl) (i := i) (ρ := ρ) (F := F) (Xc := Xc) (s₀ := s₀) G hA hx hc hv hb'


theorem ss_ret {Γ : Sc} {env : Env} {Xc : Addr → Prop} {s₀ : Shared} {ρ : Rho} {e : E} {p : Expr} {pos : Pos} (G : GF prog w hb cO T F n) (hA : Room A n) (h : wf T Γ e p = true) : StOk prog w hb cO A Γ env Xc s₀ ρ (exec (.Return (some (rb T Γ e p)) pos) env) (evS F (.ret e) ρ) := by
  cases e with
  | own i => exact st_ret_own h
  | _ => exact st_ret_plain fun o s S => (main_E G hA _ Γ env ρ none _ _ s p h S.se).1
theorem seqOut_eq {f : Rho → Out} {o : Out} : seqOut f o = (match o with | .next ρ' => f ρ' | o => o) := by cases o <;> rfl
theorem ss_frz {Γ : Sc} {env : Env} {Xc : Addr → Prop} {s₀ : Shared} {ρ : Rho} {x : Nat} {r : List S} {ps : List Stmt} (h : ∀ ρ', StOk prog w hb cO A Γ env Xc s₀ ρ' (execs ps env) (evSs F r ρ')) : StOk prog w hb cO A Γ env Xc s₀ ρ (execs ps env) (evSs F (.frz x :: r) ρ) := by
  refine cast (congrArg (StOk prog w hb cO A Γ env Xc s₀ ρ _) ?_) (st_frz (x := x) (ρ := ρ) h)
  exact seqOut_eq (o := evS F (.frz x) ρ)
theorem ss_seq {Γ : Sc} {env : Env} {Xc : Addr → Prop} {s₀ : Shared} {ρ : Rho} {st : S} {r : List S} {p : Stmt} {ps : List Stmt} (h1 : StOk prog w hb cO A Γ env Xc s₀ ρ (exec p env) (evS F st ρ)) (h2 : ∀ ρ', StOk prog w hb cO A Γ env Xc s₀ ρ' (execs ps env) (evSs F r ρ')) : StOk prog w hb cO A Γ env Xc s₀ ρ (execs (p :: ps) env) (evSs F (st :: r) ρ) := by
  refine cast (congrArg (StOk prog w hb cO A Γ env Xc s₀ ρ _) ?_) (st_seq h1 h2)
  exact seqOut_eq
theorem isCall_rb {Γ : Sc} {e : E} {p : Expr} (h : isCallF e = true) : isCallE (rb T Γ e p) = true := by
  cases e with
  | call f args => rfl
  | _ => exact ff_ne h

mutual
theorem main_S (G : GF prog w hb cO T F n) (hA : Room A n) : ∀ st : S, PS prog w hb cO T F A st
  | .assign i e => fun Γ env Xc s₀ ρ p h => ss_assign G hA (and_l h) (and_r h)
  | .assignO i e => fun Γ env Xc s₀ ρ p h => by
    show StOk prog w hb cO A Γ env Xc s₀ ρ _ (if freshE e then _ else _)
    cases hf : freshE e with
    | true => exact ss_assignO G hA (and_l h) (and_r h) hf
    | false => exact fun o s S hr => absurd rfl hr
  | .assignT is e => fun Γ env Xc s₀ ρ p h => st_assignT hA.2.2 (and_l h) (isCall_rb (and_l (and_r h))) fun o s S => (main_E G hA e Γ env ρ none _ _ s _ (and_r (and_r h)) S.se).1
  | .setItem x i e => fun Γ env Xc s₀ ρ p h => st_setItem (and_l h) (fun o s S => (main_E G hA e Γ env ρ none _ _ s _ (and_r (and_r h)) S.se).1) fun o s S => (main_E G hA i Γ env ρ none _ _ s _ (and_l (and_r h)) S.se).1
  | .append x e => fun Γ env Xc s₀ ρ p h => st_append (and_l h) (and_l (and_r h)) (by rw [List.all_cons, rb_noStar]; rfl) fun o s S => (main_E G hA e Γ env ρ none _ _ s _ (and_r (and_r h)) S.se).1
  | .drop e => fun Γ env Xc s₀ ρ p h => st_drop (isCall_rb (and_l h)) fun o s S => (main_E G hA e Γ env ρ none _ _ s _ (and_r h) S.se).1
  | .ife c a b => fun Γ env Xc s₀ ρ p h => st_if (fun o s S => (main_E G hA c Γ env ρ none _ _ s _ (and_l h) S.se).2.1) (main_Ss G hA a Γ env Xc s₀ ρ _ (and_l (and_r h))) (main_Ss G hA b Γ env Xc s₀ ρ _ (and_r (and_r h)))
  | .for1 x src body => fun Γ env Xc s₀ ρ p h =>
    st_for (pre := fun d ρ => some (setV ρ x d)) (bodyOut := fun ρ => evSs F body ρ) rb_noSet (fun o s S => (main_E G hA src Γ env ρ none _ _ s _ (and_l (and_r h)) S.se).2.2.1)
          (fun d v ρ1 ρ2 o1 s1 S1 r1 hp Q E hQ => by
            cases hp
            exact wpAny_assign_Name (st_store (G := No) (va := .v d) S1 (.refl s1) (fun a h => h.elim) (and_l h) r1 fun o' s' S' _ c => hQ o' s' S' c))
          (fun ρ2 => main_Ss G hA body Γ env Xc s₀ ρ2 _ (and_r (and_r h))) (fun I v s1 oI Tn Q E _ _ _ hQ => wpAny_pure hQ)
  | .forT is src body => fun Γ env Xc s₀ ρ p h => ff_ne h
  | .whil c body => fun Γ env Xc s₀ ρ p h => st_while (test := fun ρ => ev F ρ none c) (bodyOut := fun ρ => evSs F body ρ) (fun ρ o s S => (main_E G hA c Γ env ρ none _ _ s _ (and_l h) S.se).2.1) (fun ρ2 => main_Ss G hA body Γ env Xc s₀ ρ2 _ (and_r h)) wFuel
  | .ret e => fun Γ env Xc s₀ ρ p h => ss_ret G hA h
  | .raise k e => fun Γ env Xc s₀ ρ p h => st_raise G hA (and_l h) (by rw [List.all_cons, rb_noStar]; rfl) fun o s S => (main_E G hA e Γ env ρ none _ _ s _ (and_r h) S.se).1
  | .tryc body k x c => fun Γ env Xc s₀ ρ p h => by
    have h2 := and_r h
    refine cast (congrArg (StOk prog w hb cO A Γ env Xc s₀ ρ _) ?_) (st_try G (and_l h2) (and_l (and_r (and_r h2))) (and_l (and_r h2)) (and_r (and_r (and_r h2))) (main_Ss G hA body Γ env Xc s₀ ρ _ (and_l h)))
    show tryOut _ _ _ _ _ = (match evSs F body ρ with | .exc k' ρ' => _ | o => o)
    cases evSs F body ρ <;> rfl
  | .frz x => fun Γ env Xc s₀ ρ p h => ff_ne h
  | .fwd _ _ _ _ _ _ => fun Γ env Xc s₀ ρ p h => ff_ne h
  | .retF nw fo a b => fun Γ env Xc s₀ ρ p h => ff_ne h
theorem main_Ss (G : GF prog w hb cO T F n) (hA : Room A n) : ∀ sts : List S, PSs prog w hb cO T F A sts
  | [] => fun Γ env Xc s₀ ρ ps h o s S hr Q E hn hret hretF hexc => wpAny_execs_nil (hn ρ o s rfl S .refl)
  | st :: r => fun Γ env Xc s₀ ρ ps h => by
    cases st with
    | frz x => exact ss_frz fun ρ' => main_Ss G hA r Γ env Xc s₀ ρ' ps h
    | fwd st' nw fo to f args => exact ff_ne h
    | forT is src body => exact ff_ne h
    | retF nw fo a b => exact ff_ne h
    | _ => exact ss_seq (main_S G hA _ Γ env Xc s₀ ρ _ (and_l h)) fun ρ' => main_Ss G hA r Γ env Xc s₀ ρ' _ (and_r h)
end
end
end Mine

-- M34
namespace Mine
open PySem PySem.Calls PyProof.Rows

section
variable {prog : Program} {w : World} {hb : Heap} {cO : Addr} {A : Around} {Γ : Sc} {env : Env} {Xc : Addr → Prop} {s₀ : Shared}

theorem st_binds {M : Model} {A' : Around} {E : Value → Shared → Prop} {Q : PUnit → Shared → Prop} (f : Str × Value → PUnit → Sem (ForInStep PUnit)) (hf : ∀ n v u, f (n, v) u = (do storeName env n v; pure (.yield ⟨⟩))) :
    ∀ {is : List Nat} {binds : List (Str × Value)} {ds : List PyData} {ρ ρ' : Rho} {o : Nat → Addr} {s : Shared}, (is.length = binds.length ∧ ∀ (j i : Nat) (x : Str) (v : Value), is[j]? = some i → binds[j]? = some (x, v) → Γ.isVar i x = true) → SS prog w hb A Γ env Xc s₀ No ρ o s →
      RpL prog w s.heap (fun a => ¬ XX Xc No env ρ o a) (binds.map (·.2)) ds → setVs is ds ρ = some ρ' → (∀ o' s', SS prog w hb A Γ env Xc s₀ No ρ' o' s' → Q ⟨⟩ s') → wpAny M A' (forIn binds ⟨⟩ f) Q E s
  | [], binds, ds, ρ, ρ', o, s, hc, S, r, hs, h => by
    cases binds with
    | cons _ _ => simp at hc
    | nil =>
      cases ds with
      | cons _ _ => simp [setVs] at hs
      | nil =>
        simp only [setVs, Option.some.injEq] at hs
        subst hs
        rw [List.forIn_nil]
        exact wpAny_pure (h o s S)
  | i :: is, binds, ds, ρ, ρ', o, s, hc, S, r, hs, h => by
    cases binds with
    | nil => simp at hc
    | cons b bs =>
      obtain ⟨x, v⟩ := b
      have hx : Γ.isVar i x = true := hc.2 0 i x v rfl rfl
      cases ds with
      | nil => simp [setVs] at hs
      | cons d ds' =>
        cases r with
        | cons rv rs =>
          simp only [setVs] at hs
          rw [List.forIn_cons, hf]
          refine wpAny_bind (wpAny_bind (st_store (G := No) (va := .v d) S (.refl s) (fun a h => h.elim) hx rv fun o' s' S' _ c => wpAny_pure ?_))
          refine st_binds f hf (is := is) ⟨by simpa using hc.1, fun j i x v h1 h2 => hc.2 (j + 1) i x v (by simpa using h1) (by simpa using h2)⟩ S' (c.rpl rs) hs h

theorem un_get {n i : Nat} {va : VA} (h : (List.replicate n VA.un)[i]? = some va) : va = .un := by
  rw [List.getElem?_replicate] at h
  split at h
  · exact (Option.some.inj h).symm
  · cases h

theorem ss_start {fd : FuncData} {a : Addr} {s : Shared} {n : Nat} (hsc : Γ.fs = fd.scope) (hcs : Γ.cs = none) (hnd : Γ.vars.Nodup) (hk : fd.scope.kind = .function) (hg : fd.globals = mainGlobals) (hbl : fd.builtins = builtinsNs) (hst : hb.StaysIn s.heap) (hstk : Stk hb A s.heap) (hbare : AllBare s.gens) (hX : XIn Xc s.heap) (hXn : ∀ a, Xc a → hb.get? a = none) :
    SS prog w hb (A.deeper (callEnvC fd s.heap.objs.size a)) Γ (callEnvC fd s.heap.objs.size a) Xc s No (List.replicate n .un) (fun _ => 0) { s with heap := pushCells (s.heap.push { cls := .type "frame", data := .dict #[] }) fd.scope.names } := by
  have ok := cellsFrom_ok fd.scope.names (s.heap.push { cls := .type "frame", data := .dict #[] }) (s.heap.objs.size + 1) [] ⟨fun _ _ hm => (nomatch hm), List.Pairwise.nil⟩ (by rw [Heap.size_push]; exact Nat.le_refl _)
  rw [Heap.size_push] at ok
  have keep : ∀ b ob, s.heap.get? b = some ob → (pushCells (s.heap.push { cls := .type "frame", data := .dict #[] }) fd.scope.names).get? b = some ob := fun b ob e => pushCells_keeps _ _ b ob (Heap.get?_push_of_some _ e)
  have hfrm : (pushCells (s.heap.push { cls := .type "frame", data := .dict #[] }) fd.scope.names).get? s.heap.objs.size = some { cls := .type "frame", data := .dict #[] } := pushCells_keeps _ _ _ _ (Heap.get?_push_size _ rfl)
  have hnsL : (pushCells (s.heap.push { cls := .type "frame", data := .dict #[] }) fd.scope.names).Ns s.heap.objs.size (fun _ => none) := (Heap.Ns.new s.heap (.type "frame")).keeps (pushCells_keeps _ _)
  have hFr : Mine.Fr { cls := .type "frame", data := .dict #[] } := ⟨rfl, fun vs q => by cases q⟩
  obtain ⟨⟨l, hl1, hl2⟩, hl3⟩ := hstk
  have hfrs : frs (A.deeper (callEnvC fd s.heap.objs.size a)) = s.heap.objs.size :: frs A := by
    unfold frs
    rw [Around.frames_deeper hl1, hl1]
    rfl
  have k0 : Kp hb s.heap (pushCells (s.heap.push { cls := .type "frame", data := .dict #[] }) fd.scope.names) := .strict keep
  refine ⟨hk, hg, hbl, hsc.symm, hcs, hnd, rfl, ?_, ok.apart, hst, ⟨⟨callEnvC fd s.heap.objs.size a :: l, Around.frames_deeper hl1, ?_⟩, ?_⟩, ?_, ⟨l, Around.frames_deeper hl1⟩, ?_, hbare, rfl, k0, hX, hXn, get_size _, ⟨_, hnsL⟩, ?_, fun a h => h.elim, ?_, ?_, ?_⟩
  · intro y hy
    rw [hsc] at hy
    exact Option.isSome_iff_exists.mp (PySem.W.cellsFrom_some _ _ _ (.inl hy))
  · refine Heap.FunFrames.cons (L := s.heap.objs.size) ?_ rfl hnsL (hst.fresh) (k0.frames hl2)
    show fd.scope.kind ≠ .module
    rw [hk]; decide
  · intro b hb'
    rw [hfrs] at hb'
    rcases List.mem_cons.mp hb' with rfl | hb'
    · exact ⟨_, hfrm, hFr⟩
    · obtain ⟨ob, e, f⟩ := hl3 b hb'
      exact ⟨ob, keep b ob e, f⟩
  · rw [hfrs]; exact .head _
  · intro b hb'
    rw [hfrs] at hb'
    rcases List.mem_cons.mp hb' with rfl | hb'
    · exact .inl rfl
    · obtain ⟨ob, e, _⟩ := hl3 b hb'
      exact .inr (by rw [e]; simp)
  · intro y c hc
    obtain ⟨h1, h2⟩ := ok.empty y c (mem_of_lookup hc)
    refine ⟨?_, _, h1⟩
    cases q : s.heap.get? c with
    | none => rfl
    | some ob =>
      have h3 : c < s.heap.objs.size := Heap.lt_size q
      have h2' : s.heap.objs.size + 1 ≤ c := h2
      exact absurd (Nat.lt_of_lt_of_le h3 (Nat.le_of_succ_le h2')) (Nat.lt_irrefl _)
  · intro i ds h; exact absurd (un_get h) (by simp)
  · intro i j ds es h; exact absurd (un_get h) (by simp)
  · intro i x va h1 h2 h3; exact absurd (un_get h2) h3
end

structure DefOk (T : Tb) (Γ : Sc) (fd : FuncData) (pis : List Nat) (names : List Str) (code : List Stmt) (sts : List S) : Prop where
  body : fd.body = .stmts code
  scope : Γ.fs = fd.scope
  cs : Γ.cs = none
  nodup : Γ.vars.Nodup
  kind : fd.scope.kind = .function
  gen : fd.scope.isGenerator = false
  co : fd.scope.isCoroutine = false
  gl : fd.globals = mainGlobals
  bl : fd.builtins = builtinsNs
  clo : fd.closure = []
  bind : ∀ vals, vals.length = names.length → bindArgs fd ⟨vals, []⟩ = pure (names.zip vals)
  par : pis.length = names.length ∧ ∀ (j i : Nat) (x : Str), pis[j]? = some i → names[j]? = some x → Γ.isVar i x = true
  chk : wfSs T Γ sts code = true
  reb : rbSs T Γ sts code = code

noncomputable def fnR (F : FT) (n : Nat) (pis : List Nat) (sts : List S) (ds : List PyData) : Out := match setVs pis ds (List.replicate n .un) with
  | some ρ => evSs F sts ρ
  | none => .stuck

noncomputable def bodyF : Out → R PyData
  | .retF ns fs a b => .ok (.tuple [.list ns, .list fs, a, b])
  | .exc k _ => .exc k
  | _ => .stuck

section
variable {prog : Program} {w : World} {hb : Heap} {cO : Addr} {T : Tb} {F : FT} {Γ : Sc} {fd : FuncData} {pis : List Nat} {names : List Str} {body : List Stmt} {sts : List S} {nv k : Nat}

theorem call_out {A : Around} {s : Shared} {X : Addr → Prop} {vals : List Value} {ds : List PyData} {a : Addr} {o : Obj} (G : GF prog w hb cO T F k) (D : DefOk T Γ fd pis names body sts) (ho : hb.get? a = some o) (hd : o.data = .func fd) (hcd : hb.CodeRec fd.code fd.qualname)
    (hA : Room A (k + 1)) (hst : hb.StaysIn s.heap) (hstk : Stk hb A s.heap) (hbare : AllBare s.gens) (hX : XIn X s.heap) (hXn : ∀ a, X a → hb.get? a = none) (r : RpL prog w s.heap (fun a => ¬ X a) vals ds) (hne : fnR F nv pis sts ds ≠ .stuck)
    {Q : Value → Shared → Prop} {E : Value → Shared → Prop} (hnext : ∀ ρ' s', fnR F nv pis sts ds = .next ρ' → Nx hb s s' → Q .none s') (hret : ∀ v s' d, fnR F nv pis sts ds = .ret d → Nx hb s s' → Rp prog w s'.heap (fun a => ¬ X a) v d → Q v s')
    (hretF : ∀ v s' ns fs x y, fnR F nv pis sts ds = .retF ns fs x y → Nx hb s s' → NewF prog w X s s' v (.tuple [.list ns, .list fs, x, y]) → Q v s') (hexc : ∀ e s' x ρ', fnR F nv pis sts ds = .exc x ρ' → Flown hb s s' e (exCls cO x) → E (.ref e) s') :
    wpAny (model prog w) A (call (.ref a) vals) Q E s := by
  unfold fnR at hne hnext hret hretF hexc
  split at hne
  · rename_i ρ hρ
    rw [hρ] at hnext hret hretF hexc
    simp only at hnext hret hretF hexc
    have hlen : vals.length = names.length := by rw [r.length, ← setVs_len hρ, D.par.1]
    refine wpAny_call (codeAny_call_function (by have := hA.1; show A.depth < 1000; omega) (hst _ _ ho) hd D.co D.gen D.body (hcd.keeps hst) ?_)
    rw [D.bind vals hlen, D.clo]
    refine wpAny_pure ?_
    have S0 := ss_start (prog := prog) (w := w) (a := a) (n := nv) D.scope D.cs D.nodup D.kind D.gl D.bl hst hstk hbare hX hXn
    simp only [newFunctionEnv, Option.isSome_none, Bool.false_eq_true, if_false]
    refine wpAny_bind (wpAny_alloc ?_)
    refine wpAny_bind (wpAny_layCells _ (fun name kind cells => by cases hkc : kind == NameKind.cell <;> simp [hkc]) _ _ _ _ ?_)
    have hsz : ({ s with heap := s.heap.push { cls := .type "frame", data := .dict #[] } } : Shared).heap.objs.size = s.heap.objs.size + 1 := Heap.size_push ..
    rw [hsz]
    have e2 : (names.zip vals).map (·.2) = vals := by
      rw [List.map_snd_zip]
      omega
    have rr : RpL prog w (pushCells (s.heap.push { cls := .type "frame", data := .dict #[] }) fd.scope.names) (fun b => ¬ XX X No (callEnvC fd s.heap.objs.size a) (List.replicate nv .un) (fun _ => 0) b) ((names.zip vals).map (·.2)) ds := by
      rw [e2]
      refine r.there.to (fun b q => ?_) fun b ob _ e _ => pushCells_keeps _ _ b ob (Heap.get?_push_of_some _ e)
      rintro (h | h | h)
      · exact q.1 h
      · exact h
      · exact q.2.2 (S0.nn_new h)
    refine wpAny_bind (st_binds (env := callEnvC fd s.heap.objs.size a) (Γ := Γ) _ (fun _ _ _ => rfl) (is := pis) (binds := names.zip vals) (ds := ds) (ρ' := ρ) ⟨by rw [List.length_zip, hlen, Nat.min_self, D.par.1], fun j i x v h1 h2 => ?_⟩ S0 rr hρ fun o1 s1 S1 => wpAny_pure ⟨?_, codeAny_func ?_⟩)
    · rw [List.getElem?_zip_eq_some] at h2
      exact D.par.2 j i x h1 h2.1
    · exact G.nolim.keeps (S1.kp.stays hst)
    · have hA' : Room (A.deeper (callEnvC fd s.heap.objs.size a)) k := by
        refine ⟨?_, ?_, hA.2.2⟩
        · have := hA.1
          show A.depth + 1 + k < 900
          omega
        · have := hA.2.1
          show A.units + 3 + 10 * k + 200 < 9900
          omega
      have hmain := main_Ss G hA' sts Γ (callEnvC fd s.heap.objs.size a) X s ρ body D.chk
      rw [D.reb] at hmain
      refine hmain o1 s1 S1 hne _ _ (fun ρ' o' s' e S' _ => ?_) (fun v s' d e n1 r1 => ?_) (fun v s' ns fs x y e n1 r1 => ?_) fun e s' x ρ' o' s₁ ek S' _ fl => ?_
      · exact hnext ρ' s' e S'.nx0
      · exact hret v s' d e n1 r1
      · exact hretF v s' ns fs x y e n1 r1
      · obtain ⟨outer, htop⟩ := S'.top
        refine leaves htop S'.frame (S'.kp.stays S'.stays) (S'.nx fl.1).stk (fun b hb => .inr (S'.stk.2 b hb)) fl fun s'' f => ?_
        exact hexc e s'' x ρ' ek (f.from S'.nx0)
  · exact absurd rfl hne

theorem callOk_of {a : Addr} {o : Obj} (G : GF prog w hb cO T F k) (D : DefOk T Γ fd pis names body sts) (ho : hb.get? a = some o) (hd : o.data = .func fd) (hcd : hb.CodeRec fd.code fd.qualname) : CallOk prog w hb cO (fun ds => bodyR (fnR F nv pis sts ds)) k a := by
  intro A s X vals ds hA hst hstk hbare hX hXn r hne Q E hQ hE
  have hne' : fnR F nv pis sts ds ≠ .stuck := fun q => hne (by simp only [q, bodyR])
  refine call_out G D ho hd hcd hA hst hstk hbare hX hXn r hne' (fun ρ' s' e n1 => hQ _ s' .none (by simp only [e, bodyR]) n1 .none) (fun v s' d e n1 r1 => hQ v s' d (by simp only [e, bodyR]) n1 r1) (fun v s' ns fs x y e n1 r1 => ?_) fun e s' x ρ' ek f => hE e s' x (by simp only [ek, bodyR]) f
  refine hQ v s' (.tuple [.list ns, .list fs, x, y]) (by simp only [e, bodyR]) n1 ?_
  obtain ⟨t, a₁, a₂, vs₁, vs₂, n₀, n₁, n₂, v₃, v₄, ns', fs', d₃, d₄, x1, rfl, x3, x4, x5, x6, x7, x8, x9, x10, x11, x12, x13, x14, x15⟩ := r1
  cases x1
  refine .tuple (hX.new x4) x3 (by rw [LIM_eq]; simp) (.cons (.list (hX.new x5) x8 x10 (x12.mono fun a q => q.1)) (.cons (.list (hX.new x6) x9 x11 (x13.mono fun a q => q.1)) (.cons (x14.mono fun a q => q.1) (.cons (x15.mono fun a q => q.1) .nil))))
theorem CallOk.to {f g : List PyData → R PyData} {a : Addr} (h : CallOk prog w hb cO f k a) (e : ∀ ds, g ds ≠ .stuck → f ds = g ds) : CallOk prog w hb cO g k a := by
  intro A s X vals ds hA hst hstk hbare hX hXn r hne Q E hQ hE
  have q := e ds hne
  exact h A s X vals ds hA hst hstk hbare hX hXn r (by rw [q]; exact hne) Q E (fun v s' d e1 => hQ v s' d (q ▸ e1)) fun e1 s' x e2 => hE e1 s' x (q ▸ e2)
theorem CallOkF.to {f g : List PyData → R PyData} {a : Addr} (h : CallOkF prog w hb cO f k a) (e : ∀ ds, g ds ≠ .stuck → f ds = g ds) : CallOkF prog w hb cO g k a := by
  intro A s X vals ds hA hst hstk hbare hX hXn r hne Q E hQ hE
  have q := e ds hne
  exact h A s X vals ds hA hst hstk hbare hX hXn r (by rw [q]; exact hne) Q E (fun v s' d e1 => hQ v s' d (q ▸ e1)) fun e1 s' x e2 => hE e1 s' x (q ▸ e2)
end
end Mine

-- W1
namespace Mine
open PySem PySem.Calls PyProof.Rows

section
variable {prog : Program} {w : World} {hb h₁ : Heap} {cO : Addr} {A : Around} {Γ : Sc} {env : Env} {Xc : Addr → Prop} {s₀ : Shared} {ρ : Rho} {o : Nat → Addr} {s s' σ : Shared} {c P : Addr} {ps : Array Value}

structure TS (h₁ hb : Heap) (σ : Shared) (c P : Addr) (ps : Array Value) (env : Env) (s₀ : Shared) : Prop where
  B : Based h₁ s₀.heap c P ps
  M : ∃ mg bm ob, BMod s₀.heap env.globals mg bm ob
  code : env.code = .ref c
  low : ∀ b ob, b ≠ P → s₀.heap.get? b = some ob → hb.get? b = some ob
  noP : hb.get? P = none
  loc : s₀.heap.objs.size ≤ env.locals
  os : s₀.os = σ.os
  bare : AllBare s₀.gens

theorem TS.keep (t : TS h₁ hb σ c P ps env s₀) (k : Kp hb s₀.heap s.heap) (b : Addr) (ob : Obj) (e : s₀.heap.get? b = some ob) : s.heap.get? b = some ob := by
  by_cases q : b = P
  · subst q
    refine k.ex _ _ e fun z => ?_
    rw [t.B.tab.2] at e; cases e
    exact nomatch z.1
  · exact k.low b ob (t.low b ob q e) e

theorem SS.regrow (S : SS prog w hb A Γ env Xc s₀ No ρ o s) (t : TS h₁ hb σ c P ps env s₀) {ps' : Array Value} (hos : s'.os = s.os) (hbare : AllBare s'.gens) (hk : ∀ b ob, b ≠ P → s.heap.get? b = some ob → s'.heap.get? b = some ob)
    (hP : s'.heap.get? P = some { cls := .none, data := .fields ps' }) : SS prog w hb A Γ env Xc { s₀ with heap := regrown s₀.heap P ps' } No ρ o s' := by
  have hself : (regrown s₀.heap P ps').get? P = some { cls := .none, data := .fields ps' } := Heap.get?_update_self _ t.B.tab.2 rfl
  have hoth : ∀ b, b ≠ P → (regrown s₀.heap P ps').get? b = s₀.heap.get? b := fun b q => Heap.get?_update_other _ _ (Ne.symm q)
  have sP : s.heap.get? P = some { cls := .none, data := .fields ps } := t.keep S.kp _ _ t.B.tab.2
  have nP : ∀ {a : Addr}, s₀.heap.get? a = none → a ≠ P := fun e q => by rw [q, t.B.tab.2] at e; cases e
  have none0 : ∀ {a : Addr}, s₀.heap.get? a = none → (regrown s₀.heap P ps').get? a = none := fun e => (hoth _ (nP e)).trans e
  have some0 : ∀ {a : Addr}, s₀.heap.get? a ≠ none → (regrown s₀.heap P ps').get? a ≠ none := fun {a} e => by
    by_cases q : a = P
    · rw [q, hself]; exact nofun
    · rw [hoth a q]; exact e
  have hP0 : ∀ {a : Addr} {ob : Obj}, hb.get? a = some ob → a ≠ P := fun e q => by rw [q, t.noP] at e; cases e
  have hkd : ∀ (a : Addr) (ob : Obj), s.heap.get? a = some ob → DtC ob.cls → s'.heap.get? a = some ob := fun a ob e d => hk a ob (by
    rintro rfl
    rw [sP] at e; cases e
    rcases d with d | d | d <;> exact nomatch d) e
  have hval : ∀ {x : Str} {v : Value}, ValOf env s.heap x v → ValOf env s'.heap x v := fun {x v} r => by
    rcases r with ⟨a, m, n, e⟩ | ⟨a, cc, e, n⟩
    · exact .inl ⟨a, m, n.extBut hk (nP S.lnew), e⟩
    · obtain ⟨ob, eo, d⟩ := n
      exact .inr ⟨a, cc, e, ob, hk _ _ (nP (S.cellv _ _ e).1) eo, d⟩
  refine ⟨S.kind, S.gl, S.bl, S.scope, S.cs, S.nodup, S.frame, S.cel, S.apart, fun b ob e => (hoth b (hP0 e)).trans (S.stays b ob e), ?_, S.lin, S.top, fun b hb' => (S.fra b hb').imp id some0, hbare, hos.trans S.os, ⟨fun a ob e1 e2 => ?_, fun a ob e nf => ?_, fun a ob e => ?_⟩,
    fun a q => some0 (S.xc a q), S.xcn, none0 S.lnew, ?_, fun y cc e => ?_, fun a h => h.elim, fun i ds e => ?_, S.inj, fun i x va h1 h2 h3 => ?_⟩
  · obtain ⟨⟨l, a, b⟩, cc⟩ := S.stk
    refine ⟨⟨l, a, b.of_keeps fun b ob e hnf => ⟨ob, hk b ob ?_ e, rfl⟩⟩, fun b hb' => ?_⟩
    · rintro rfl
      rw [sP] at e; cases e
      exact hnf _ rfl
    · obtain ⟨ob, e, f⟩ := cc b hb'
      refine ⟨ob, hk b ob ?_ e, f⟩
      rintro rfl
      rw [sP] at e; cases e
      exact nomatch f.1
  · rw [hoth a (hP0 e1)] at e2
    exact hk a ob (hP0 e1) (S.kp.low a ob e1 e2)
  · by_cases q : a = P
    · subst q; rw [hself] at e; cases e; exact hP
    · rw [hoth a q] at e
      exact hk a ob q (S.kp.ex a ob e nf)
  · by_cases q : a = P
    · subst q; rw [hself] at e; cases e; exact ⟨_, hP⟩
    · rw [hoth a q] at e
      obtain ⟨sl, z⟩ := S.kp.fr a ob e
      exact ⟨sl, hk a _ q z⟩
  · obtain ⟨m, n⟩ := S.ns
    exact ⟨m, n.extBut hk (nP S.lnew)⟩
  · obtain ⟨h1, v, ob, eo, d⟩ := S.cellv y cc e
    exact ⟨none0 h1, v, ob, hk _ _ (nP h1) eo, d⟩
  · obtain ⟨h1, vs, n, g, l, r⟩ := S.own i ds e
    exact ⟨none0 h1, vs, n, hkd _ _ g (.inl rfl), l, r.to (fun _ p => p) fun a ob _ e d => hkd a ob e d⟩
  · obtain ⟨v, q1, q2⟩ := S.vars i x va h1 h2 h3
    refine ⟨v, hval q1, ?_⟩
    cases va with
    | un => exact q2
    | v d => exact Rp.to (fun _ p => p) (fun a ob _ e d => hkd a ob e d) q2
    | own ds => exact q2
    | i3 k =>
      obtain ⟨tt, vs, n, tok, e, g, r⟩ := q2
      exact ⟨tt, vs, n, tok, e, hkd _ _ g (.inr (.inl rfl)), r⟩

noncomputable def genSc (sc : Scope) (x : Str) : Bool := sc.kind == .function && !sc.isCoroutine && sc.names.all (fun y => y.2 != .cell && y.2 != .free) && sc.names.lookup (".0" : Str) == some .local && sc.names.lookup x == some .local

theorem pass_all {n : Nat} : passing (fun _ => true) n 0 = List.range n := by simp [passing]

theorem gen_list {x : Str} {px gp : Pos} {iter elt : Expr} {sc : Scope} {xs ys : List PyData} {fr : Bool} {id : String} {RV : Value → Prop} {Q : Value → Shared → Prop} {E : Value → Shared → Prop}
    (S : SS prog w hb A Γ env Xc s₀ No ρ o s) (t : TS h₁ hb σ c P ps env s₀) (hnf : codeAmong gp ps.toList = none) (hh : A.handled = none) (hd : A.depth < 1000) (hlim : hb.NoLimit)
    (hsc : genSc sc x = true) (hit : EOk prog w hb cO A (XX Xc No env ρ o) fr s (eval iter env) (.ok (.list xs))) (hfold : ∀ v, genFold iter env v = pure v) (hlen : xs.length = ys.length)
    (helt : ∀ (cl : List (Str × Addr)) (C : Addr) (code : Value) (A' : Around) (E' : Value → Shared → Prop) (i : Nat) (v : Value) (d y : PyData) (u : Shared) (m₂ : Str → Option Value), xs[i]? = some d → ys[i]? = some y → Rp prog w u.heap (fun a => ¬ No a) v d → hb.StaysIn u.heap → u.heap.Ns C m₂ → m₂ x = some v →
      wpAny (model prog w) A' (eval elt (genEnv sc cl C code builtinsNs env)) (fun z s₃ => Carried z y ∧ Keeps u s₃) E' u)
    (hcall : ∀ (a K L : Addr) (h₀ : Heap) (m : Str → Option Value) (s₅ : Shared) (Q' : Value → Shared → Prop), PyProof.Rows.Fr h₀ L s₅.heap m → AllBare s₅.gens → Gen prog w A K a ys.length (fun j z => ∃ y, ys[j]? = some y ∧ Carried z y) s₅ → L ≤ K →
      (∀ v s', RV v → AllBare s'.gens → s'.os = s₅.os → (∀ b ob, b ≤ K → s₅.heap.get? b = some ob → s'.heap.get? b = some ob) → Q' v s') → wpAny (model prog w) A (call (.builtin id) [.ref a]) Q' E s₅)
    (hQ : ∀ v s₀' s' c', RV v → SS prog w hb A Γ env Xc s₀' No ρ o s' → TS h₁ hb σ c P (ps ++ #[rawInt gp.line, rawInt gp.col, .ref c']) env s₀' → (∀ a ob, s.heap.get? a = some ob → DtC ob.cls → s'.heap.get? a = some ob) → Q v s') :
    wpAny (model prog w) A (eval (.GeneratorExp elt [⟨.Name x px, iter, [], 0⟩] sc gp) env) (fun v s₅ => wpAny (model prog w) A (call (.builtin id) [v]) Q E s₅) E s := by
  obtain ⟨m, hm⟩ := S.ns
  obtain ⟨mg, bm, ob, M⟩ := t.M
  simp only [genSc, Bool.and_eq_true, beq_iff_eq, Bool.not_eq_true', List.all_eq_true, bne_iff_ne, ne_eq] at hsc
  obtain ⟨⟨⟨⟨hkind, hco⟩, hnames⟩, h0⟩, hx⟩ := hsc
  obtain ⟨cl, hclos, _, _⟩ := closure_ok (sc := sc) (env := env) fun p hp hf => absurd hf (hnames p hp).2
  refine GeneratorExp_list_rowsF (L := env.locals) (m := m) t.B M t.code hnf hh hco hclos (fun y hy => (hnames y hy).1) h0 hx hkind hd ?_ hfold
  refine hit (fun q => by cases q) _ _ (fun v s₁ d e n1 r1 _ => ?_) fun e s' x ex => by cases ex
  cases e
  cases r1 with
  | @list l vs n xs' _ g hl rl =>
    have S₁ := S.nx n1
    have st1 : hb.StaysIn s₁.heap := S₁.kp.stays S₁.stays
    have hloc : env.locals < s₁.heap.objs.size := (n1.kp.ns hm).lt
    refine ⟨l, vs.toArray, rfl, isList_of g, ⟨n1.kp.ns hm, t.keep S₁.kp, t.loc⟩, S₁.bare, hlim.keeps st1, s₁.heap.objs.size - 1, fun _ => true, fun i z => ∃ y, ys[i]? = some y ∧ Carried z y, Nat.le_sub_one_of_lt hloc, Nat.sub_lt (Nat.lt_of_le_of_lt (Nat.zero_le _) hloc) Nat.one_pos, ?_, ?_, ?_⟩
    · intro c' C A' E' i v u m₂ hA hD hU hi hF hm2 hLC hk
      exact wpAny_pure ⟨rfl, u.heap, u.toks, rfl, fun _ _ e => e⟩
    · intro c' C A' E' i v u m₂ hA hD hU hi _ hF hm2 hLC hk
      have hi' : vs[i]? = some v := by simpa using hi
      have hlt : i < vs.length := (List.getElem?_eq_some_iff.mp hi').1
      have hlx : i < xs.length := by rw [← rl.length]; exact hlt
      obtain ⟨v', hv', rv⟩ := rl.get (List.getElem?_eq_getElem hlx)
      rw [hi'] at hv'
      cases hv'
      have hy := List.getElem?_eq_getElem (show i < ys.length by omega)
      have hPn : ∀ {a : Addr} {ob' : Obj}, s₁.heap.get? a = some ob' → ob'.cls ≠ .none → a ≠ P := fun e1 e2 q => by
        rw [q, t.keep S₁.kp _ _ t.B.tab.2] at e1; cases e1; exact e2 rfl
      refine wpAny_mono (helt cl C (.ref c') A' E' i v xs[i] ys[i] u m₂ (List.getElem?_eq_getElem hlx) hy (rv.to (fun _ _ q => q) fun a ob' _ e d => hk a ob' (hPn e ?_) e) (fun b ob' e => hk b ob' ?_ (st1 b ob' e)) hF.ns hm2) (fun z s₃ h => ⟨⟨_, hy, h.1⟩, h.2⟩) fun _ _ e => e
      · rcases d with d | d | d <;> rw [d] <;> exact nofun
      · rintro rfl
        rw [t.noP] at e; cases e
    · intro c' a s₅ B' F' G' hos hk X
      have esz : vs.toArray.size = ys.length := by rw [← hlen, ← rl.length]; rfl
      rw [pass_all, List.length_range, esz] at X
      have hPt : P < s₁.heap.objs.size := Heap.lt_size (t.keep S₁.kp _ _ t.B.tab.2)
      have hPn : ∀ {a : Addr} {ob' : Obj}, s₁.heap.get? a = some ob' → DtC ob'.cls → a ≠ P := fun e1 e2 q => by
        rw [q, t.keep S₁.kp _ _ t.B.tab.2] at e1; cases e1
        rcases e2 with e2 | e2 | e2 <;> exact nomatch e2
      have hlt : ∀ {b : Addr} {ob' : Obj}, s₁.heap.get? b = some ob' → b ≤ s₁.heap.objs.size - 1 := fun e => Nat.le_sub_one_of_lt (Heap.lt_size e)
      refine hcall a _ _ _ _ s₅ Q F' G' (X.imp fun j y ⟨i, h1, h2⟩ => ?_) (Nat.le_sub_one_of_lt hloc) fun v s' hv g' hos' hk' => hQ v _ s' c' hv (S₁.regrow t (hos'.trans hos) g' (fun b ob' hb' e => hk' b ob' (hlt e) (hk b ob' hb' e)) (hk' P _ (Nat.le_sub_one_of_lt hPt) (F'.keep _ _ (Heap.get?_update_self _ t.B.tab.2 rfl)))) ⟨B', ⟨mg, bm, ob, M.regrown t.B⟩, t.code, fun b ob' hb' e => ?_, t.noP, ?_, t.os, t.bare⟩
        fun b ob' e d => ?_
      · have : j = i := by
          by_cases q : j < ys.length
          · rw [List.getElem?_range q] at h1; exact Option.some.inj h1
          · rw [List.getElem?_eq_none (by simpa using q)] at h1; cases h1
        rw [this]; exact h2
      · rw [regrown, Heap.get?_update_other _ _ (Ne.symm hb')] at e
        exact t.low b ob' hb' e
      · exact Nat.le_trans (Nat.le_of_eq (Heap.SameBut.update s₀.heap P _).1) t.loc
      · have e1 := n1.kp.obj b ob' e d.ne
        exact hk' b ob' (hlt e1) (hk b ob' (hPn e1 d) e1)

theorem call_any {ys : List PyData} (hy : ∀ y ∈ ys, y = .bool false) {E : Value → Shared → Prop} (a K L : Addr) (h₀ : Heap) (m : Str → Option Value) (s₅ : Shared) (Q' : Value → Shared → Prop) (Fh : PyProof.Rows.Fr h₀ L s₅.heap m) (G : AllBare s₅.gens) (X : Gen prog w A K a ys.length (fun j z => ∃ y, ys[j]? = some y ∧ Carried z y) s₅) (hLK : L ≤ K)
    (hQ : ∀ v s', v = .bool false → AllBare s'.gens → s'.os = s₅.os → (∀ b ob, b ≤ K → s₅.heap.get? b = some ob → s'.heap.get? b = some ob) → Q' v s') : wpAny (model prog w) A (call (.builtin "any") [.ref a]) Q' E s₅ := by
  refine any_rowsK Fh G X hLK (fun _ => false) (fun j v s Q E hv hQ => ?_) fun s' _ G' hos hk => hQ _ s' ?_ G' hos hk
  · obtain ⟨y, e, cc⟩ := hv
    rw [hy y (List.mem_of_getElem? e)] at cc
    cases cc
    exact wpAny_truthy_bool hQ
  · have : (List.range ys.length).any (fun _ => false) = false := by rw [List.any_eq_false]; intro _ _; simp
    rw [this]
theorem call_sum {ks : List Int} {E : Value → Shared → Prop} (a K L : Addr) (h₀ : Heap) (m : Str → Option Value) (s₅ : Shared) (Q' : Value → Shared → Prop) (Fh : PyProof.Rows.Fr h₀ L s₅.heap m) (G : AllBare s₅.gens) (X : Gen prog w A K a (ks.map PyData.int).length (fun j z => ∃ y, (ks.map PyData.int)[j]? = some y ∧ Carried z y) s₅) (hLK : L ≤ K)
    (hQ : ∀ v s', (∃ t, v = .int ks.sum t) → AllBare s'.gens → s'.os = s₅.os → (∀ b ob, b ≤ K → s₅.heap.get? b = some ob → s'.heap.get? b = some ob) → Q' v s') : wpAny (model prog w) A (call (.builtin "sum") [.ref a]) Q' E s₅ := by
  refine sum_rowsKA Fh G X hLK (fun j => ks.getD j 0) (fun j v hv => ?_) fun s' t' _ G' hos hk => hQ _ s' ⟨t', ?_⟩ G' hos hk
  · obtain ⟨y, e, cc⟩ := hv
    rw [List.getElem?_map] at e
    cases q : ks[j]? with
    | none => rw [q] at e; cases e
    | some k =>
      rw [q] at e; cases e
      cases cc with
      | int _ t => exact ⟨t, by simp [List.getD_eq_getElem?_getD, q]⟩
  · rw [preSum_getD, List.length_map, List.take_length]
end
end Mine

-- W2
namespace Mine
open PySem PySem.Calls PyProof.Rows

section
variable {prog : Program} {w : World} {hb h₁ : Heap} {cO : Addr} {A A' : Around} {env : Env} {sc : Scope} {cl : List (Str × Addr)} {C : Addr} {code : Value} {u : Shared} {tk : Nat} {E' : Value → Shared → Prop} {Q : Value → Shared → Prop} {x : Str} {v : Value} {m₂ : Str → Option Value}

noncomputable def gBlt (sc : Scope) (y : Str) : Bool := sc.kind == .function && sc.names.lookup y == some .globalImplicit && !(y == ("__debug__" : Str))
theorem gname {y : Str} {pos : Pos} (hg : gBlt sc y = true) (hgl : env.globals = mainGlobals) (B : Blt hb y v) (hst : hb.StaysIn u.heap) (h : Q v u) : wpAny (model prog w) A' (eval (.Name y pos) (genEnv sc cl C code builtinsNs env)) Q E' u := by
  simp only [gBlt, Bool.and_eq_true, beq_iff_eq, Bool.not_eq_true'] at hg
  obtain ⟨mg, mb, n, e, n', e'⟩ := B
  refine Name_function_global (env := genEnv sc cl C code builtinsNs env) hg.1.1 hg.1.2 (loadGlobal_builtin (mg := mg) ?_ e (n'.keeps hst) e' h) hg.2
  show u.heap.Ns env.globals mg
  rw [hgl]
  exact n.keeps hst
noncomputable def gLoc (sc : Scope) (y : Str) : Bool := sc.kind == .function && sc.names.lookup y == some .local && !(y == ("__debug__" : Str))
theorem lname {pos : Pos} (hg : gLoc sc x = true) (hn : u.heap.Ns C m₂) (hm : m₂ x = some v) (h : Q v u) : wpAny (model prog w) A' (eval (.Name x pos) (genEnv sc cl C code builtinsNs env)) Q E' u := by
  simp only [gLoc, Bool.and_eq_true, beq_iff_eq, Bool.not_eq_true'] at hg
  exact wpAny_Name (wpAny_loadName_local (env := genEnv sc cl C code builtinsNs env) hg.1.1 hg.1.2 hn hm h) hg.2

theorem op_idxK {value slice : Expr} {s : Shared} {a : Value} {da d : PyData} {i : Int} {t : Tok} (hs : ∀ o k, subscripted slice false o k = operate [o, k] (getItem o k)) (ra : Rp prog w s.heap (fun a => ¬ No a) a da) (hd : idxD da (.int i) = .ok d)
    (h : ∀ v tk, Rp prog w s.heap (fun a => ¬ No a) v d → Q v { s with toks := tk }) : wpAny (model prog w) A' (subscriptTail value slice a (.int i t)) Q E' s := by
  have inv : ∀ {x : Option PyData}, (match x with | some d => R.ok d | Option.none => R.stuck) = R.ok d → x = some d := by
    intro x e
    cases x with
    | none => exact stuck_ne e
    | some y => rw [R.ok.inj e]
  have ra : Sm prog w s.heap No a da := .inl ra
  cases da with
  | list xs =>
    have he := inv hd
    obtain ⟨l, vs, n, rfl, g, hl, r⟩ := ra.list
    exact tail_any (isList_of g).typeIs slot_list_getitem.lookup (getItem_plain g hl r he fun v rv => h v s.toks rv) (hs _ _)
  | tuple xs =>
    have he := inv hd
    obtain ⟨l, vs, n, rfl, g, hl, r⟩ := ra.tuple
    obtain ⟨j, h1, h2, h3, h4⟩ := nth_some he
    obtain ⟨v, hv, rv⟩ := r.get h2
    have hl' : _ ≤ 1048576 := hl
    exact item_tupleT (isTup_of g) (by omega) (by omega) (by rw [r.length]; exact h1) hv (h v s.toks rv) (hs _ _)
  | dict ds' =>
    have he := inv hd
    obtain ⟨l, kvs, ds, rfl, hx, _, rfl, g, hl, r⟩ := ra.dict
    obtain ⟨v, hv, rv⟩ := dget_zip r he
    exact tail_any g.typeIs slot_dict_getitem.lookup (wpAny_getItem_of (knd := intKind prog w) (by simp [intKind, Value.isInt]) g.mapOf hv (h v _ rv)) (hs _ _)
  | _ => exact stuck_ne hd

theorem elt_isT {p : Bool} {T : String} {a : Expr} {da : PyData} {b : Bool} {p1 p2 p3 p4 : Pos} (hT : T = "int" ∨ T = "bool") (BT : Blt hb "type" (.type "type")) (B : Blt hb (Str.ofString T) (.type T)) (hg1 : gBlt sc "type" = true) (hg2 : gBlt sc (Str.ofString T) = true) (hgl : env.globals = mainGlobals) (hst : hb.StaysIn u.heap) (hn : [a].all noStar = true)
    (ha : ∀ Q : Value → Shared → Prop, (∀ v tk, Rp prog w u.heap (fun a => ¬ No a) v da → Q v { u with toks := tk }) → wpAny (model prog w) A' (eval a (genEnv sc cl C code builtinsNs env)) Q E' u) (hd : isTD p da T = .ok (.bool b)) :
    wpAny (model prog w) A' (eval (.Compare (.Call (.Name "type" p1) [a] [] p2) [isOf p] [.Name (Str.ofString T) p3] p4) (genEnv sc cl C code builtinsNs env)) (fun z s₃ => Carried z (.bool b) ∧ Keeps u s₃) E' u := by
  refine wpAny_Compare1 (wpAny_Call_NameR (gname hg1 hgl BT hst ?_)) (marks_of rfl)
  rw [backTo_plain p2 _ [a] hn]
  refine callWith_excType rfl (evalArgs_plain (spliced_cons (ha _ fun v tk r => spliced_nil ?_)))
  refine wpAny_mono (op_isT (s := { u with toks := tk }) (X := No) (Q := fun z s₃ => Carried z (.bool b) ∧ Keeps u s₃) (E := E') p hT (.inl r) hd fun x e => ?_) (fun v s' h => ?_) fun _ _ e => e
  · cases e; exact ⟨.bool b, u.heap, tk, rfl, fun _ _ e => e⟩
  · obtain ⟨rfl, h⟩ := h
    exact gname (u := { u with toks := tk }) hg2 hgl B hst h

theorem isTD_bool {p : Bool} {d y : PyData} {T : String} (h : isTD p d T = .ok y) : ∃ b, y = .bool b := by
  cases d with
  | int i => exact ⟨_, (R.ok.inj h).symm⟩
  | bool i => exact ⟨_, (R.ok.inj h).symm⟩
  | _ => exact stuck_ne h
theorem mapR_at {f : PyData → R PyData} : ∀ {xs ys : List PyData}, mapR f xs = .ok ys → xs.length = ys.length ∧ ∀ (i : Nat) (d y : PyData), xs[i]? = some d → ys[i]? = some y → f d = .ok y
  | [], ys, h => by
    cases h
    exact ⟨rfl, fun i d y e => by simp at e⟩
  | x :: xs, ys, h => by
    rw [mapR] at h
    cases hx : f x with
    | ok y =>
      rw [hx] at h
      cases hr : mapR f xs with
      | ok zs =>
        rw [hr] at h
        cases h
        obtain ⟨h1, h2⟩ := mapR_at hr
        refine ⟨by simp [h1], fun i d z e1 e2 => ?_⟩
        cases i with
        | zero =>
          simp at e1 e2
          rw [← e1, ← e2]; exact hx
        | succ i => exact h2 i d z (by simpa using e1) (by simpa using e2)
      | _ => rw [hr] at h; cases h
    | _ => rw [hx] at h; cases h
end

section
variable {prog : Program} {w : World} {hb h₁ : Heap} {cO : Addr} {env : Env} {sc : Scope} {x : Str} {T : Tb} {F : FT} {ρ : Rho} {n : Nat} {pe : Expr} {xs ys : List PyData}
noncomputable def GElt (prog : Program) (w : World) (hb : Heap) (env : Env) (sc : Scope) (x : Str) (elt : Expr) (xs ys : List PyData) : Prop :=
  ∀ (cl : List (Str × Addr)) (C : Addr) (code : Value) (A' : Around) (E' : Value → Shared → Prop) (i : Nat) (v : Value) (d y : PyData) (u : Shared) (m₂ : Str → Option Value), xs[i]? = some d → ys[i]? = some y → Rp prog w u.heap (fun a => ¬ No a) v d → hb.StaysIn u.heap → u.heap.Ns C m₂ → m₂ x = some v →
    wpAny (model prog w) A' (eval elt (genEnv sc cl C code builtinsNs env)) (fun z s₃ => Carried z y ∧ Keeps u s₃) E' u
noncomputable def isTChk (sc : Scope) (x : Str) (Tn : String) : Bool := gLoc sc x && gBlt sc "type" && gBlt sc (Str.ofString Tn) && (Tn == "int" || Tn == "bool")
theorem GF.typ (G : GF prog w hb cO T F n) {Tn : String} (h : Tn = "int" ∨ Tn = "bool") : Blt hb (Str.ofString Tn) (.type Tn) := by
  rcases h with rfl | rfl
  · exact G.int
  · exact G.bool
theorem gelt_idx {p : Bool} {Tn : String} {k : Int} (G : GF prog w hb cO T F n) (hgl : env.globals = mainGlobals) (hc : isTChk sc x Tn = true) (hm : mapR (fun d => ev F ρ (some d) (.isT p (.idx .cv (.int k)) Tn)) xs = .ok ys) :
    GElt prog w hb env sc x (rb T ⟨sc, [], none, x⟩ (.isT p (.idx .cv (.int k)) Tn) pe) xs ys := by
  intro cl C code A' E' i v d y u m₂ e1 e2 r hst hn hm2
  simp only [isTChk, Bool.and_eq_true, Bool.or_eq_true, beq_iff_eq] at hc
  obtain ⟨⟨⟨h1, h2⟩, h3⟩, h4⟩ := hc
  have e := (mapR_at hm).2 i d y e1 e2
  obtain ⟨da, q1, q2⟩ := bind_eq_ok e
  have q1 : idxD d (.int k) = .ok da := q1
  obtain ⟨b, rfl⟩ := isTD_bool q2
  exact elt_isT h4 G.type (G.typ h4) h2 h3 hgl hst rfl (fun Q hQ => Subscript_ (lname h1 hn hm2 (wpAny_Constant_int (op_idxK (s := { u with toks := u.toks + 1 }) (fun _ _ => rfl) r q1 fun v tk rv => hQ v tk rv)))) q2
noncomputable def lenChk (sc : Scope) (x : Str) : Bool := gLoc sc x && gBlt sc "len"
theorem gelt_len (G : GF prog w hb cO T F n) (hgl : env.globals = mainGlobals) (hc : lenChk sc x = true) (hm : mapR (fun d => ev F ρ (some d) (.bin .add (.len .cv) (.int 1))) xs = .ok ys) :
    GElt prog w hb env sc x (rb T ⟨sc, [], none, x⟩ (.bin .add (.len .cv) (.int 1)) pe) xs ys := by
  intro cl C code A' E' i v d y u m₂ e1 e2 r hst hn hm2
  simp only [lenChk, Bool.and_eq_true] at hc
  have e := (mapR_at hm).2 i d y e1 e2
  obtain ⟨dl, q1, q2⟩ := bind_eq_ok e
  have q1 : lenD d = .ok dl := q1
  have q2 : addD dl (.int 1) = .ok y := q2
  refine wpAny_BinOp (l := .Call (.Name "len" _) [.Name x _] [] _) (wpAny_Call_NameR (gname hc.2 hgl G.len hst ?_))
  rw [backTo_plain _ _ [.Name x _] rfl]
  refine callWith_builtin rfl (evalArgs_plain (spliced_cons (lname hc.1 hn hm2 (spliced_nil ?_))))
  cases r with
  | @list l vs n xs' _ g hl rl =>
    cases q1
    cases q2
    have e := rl.length
    have hl' : _ ≤ 1048576 := hl
    refine call_len_list (isList_of g) (by simp only [List.size_toArray]; omega) ?_
    simp only [List.size_toArray, e]
    exact wpAny_Constant_int (PyProof.Rows.add_int ⟨.int _ _, u.heap, _, rfl, fun _ _ e => e⟩)
  | @tuple l vs n xs' _ g hl rl =>
    cases q1
    cases q2
    have e := rl.length
    have hl' : _ ≤ 1048576 := hl
    refine P.len_tuple (n := n) g (by simp only [List.size_toArray]; omega) ?_
    simp only [List.size_toArray, e]
    exact wpAny_Constant_int (PyProof.Rows.add_int ⟨.int _ _, u.heap, _, rfl, fun _ _ e => e⟩)
  | _ => exact stuck_ne q1
end

section
variable {F : FT} {ρ : Rho}
theorem inv_if {c : E} {r : List S} (h : evSs F (.ife c [.ret (.bool false)] [] :: r) ρ = .ret (.bool true)) : ev F ρ none c = .ok (.bool false) ∧ evSs F r ρ = .ret (.bool true) := by
  change (match (ev F ρ none c).out ρ (fun x => match x with | .bool true => evSs F [.ret (.bool false)] ρ | .bool false => evSs F [] ρ | _ => .stuck) with | .next ρ' => evSs F r ρ' | o => o) = _ at h
  cases hc : ev F ρ none c with
  | ok d =>
    rw [hc] at h
    cases d with
    | bool b =>
      cases b with
      | true => exact nomatch h
      | false => exact ⟨rfl, h⟩
    | _ => exact nomatch h
  | _ => rw [hc] at h; exact nomatch h
theorem inv_or {l r : E} (h : ev F ρ none (.bop false l r) = .ok (.bool false)) : ev F ρ none l = .ok (.bool false) ∧ ev F ρ none r = .ok (.bool false) := by
  change ((ev F ρ none l).bind fun a => match a with | .bool b => if b == false then (ev F ρ none r).bind (fun d => match d with | .bool x => R.ok (PyData.bool x) | _ => .stuck) else .ok (.bool b) | _ => .stuck) = R.ok (PyData.bool false) at h
  obtain ⟨a, e1, e2⟩ := bind_eq_ok h
  cases a with
  | bool b =>
    cases b with
    | true => exact nomatch e2
    | false =>
      obtain ⟨d, e3, e4⟩ := bind_eq_ok (x := ev F ρ none r) e2
      cases d with
      | bool x => exact ⟨e1, by rw [e3]; exact congrArg R.ok (R.ok.inj e4)⟩
      | _ => exact nomatch e4
  | _ => exact nomatch e2
theorem inv_gen {f : String} {eE eI : E} {d : PyData} (h : ev F ρ none (.gen f eE eI) = .ok d) : ∃ xs ys, ev F ρ none eI = .ok (.list xs) ∧ mapR (fun x => ev F ρ (some x) eE) xs = .ok ys ∧ genR f (fun x => ev F ρ (some x) eE) xs = .ok d := by
  rw [ev_gen] at h
  obtain ⟨a, e1, e2⟩ := bind_eq_ok h
  cases a with
  | list xs =>
    have e3 : genR f (fun x => ev F ρ (some x) eE) xs = .ok d := e2
    obtain ⟨ys, e4, _⟩ := bind_eq_ok (x := mapR (fun x => ev F ρ (some x) eE) xs) e3
    exact ⟨xs, ys, e1, e4, e3⟩
  | _ => exact nomatch e2
theorem bools_of {ys : List PyData} (h : ys.all (fun y => match y with | .bool _ => true | _ => false) = true) : ∀ y ∈ ys, ∃ b, y = .bool b := by
  intro y hy
  have := List.all_eq_true.mp h y hy
  cases y with
  | bool b => exact ⟨b, rfl⟩
  | _ => exact nomatch this
theorem inv_genAny {g : PyData → R PyData} {xs ys : List PyData} (hm : mapR g xs = .ok ys) (h : genR "any" g xs = .ok (.bool false)) : ∀ y ∈ ys, y = .bool false := by
  unfold genR at h
  rw [hm] at h
  simp only [R.bind, if_neg (show ¬ "any" = "sum" by decide), if_true] at h
  split at h
  · rename_i hb
    have h2 := R.ok.inj h
    have h3 := PyData.bool.inj h2
    intro y hy
    obtain ⟨b, rfl⟩ := bools_of hb y hy
    have := List.any_eq_false.mp h3 _ hy
    simpa using this
  · exact nomatch h
theorem inv_genSum {g : PyData → R PyData} {xs ys : List PyData} {d : PyData} (hm : mapR g xs = .ok ys) (h : genR "sum" g xs = .ok d) : ∃ ks : List Int, ys = ks.map .int ∧ d = .int ks.sum := by
  unfold genR at h
  rw [hm] at h
  simp only [R.bind, if_true] at h
  cases hs : sumL ys with
  | none => rw [hs] at h; exact nomatch h
  | some k =>
    rw [hs] at h
    obtain ⟨ks, e, e2⟩ := sumL_ints hs
    exact ⟨ks, e, by rw [← e2]; exact (R.ok.inj h).symm⟩
end

section
variable {prog : Program} {w : World} {hb h₁ : Heap} {cO : Addr} {A : Around} {Γ : Sc} {env : Env} {Xc : Addr → Prop} {s₀ : Shared} {ρ : Rho} {o : Nat → Addr} {s s' σ : Shared} {c P : Addr} {ps : Array Value} {T : Tb} {F : FT} {n : Nat}

theorem execs_append_wp {M : Model} {K : Ctx} (hK : K.In A) {E : Value → Shared → Prop} {q : List Stmt} {Q : Flow → Shared → Prop} : ∀ {p : List Stmt} {pp : Pos} {s : Shared},
    Sem.wp M K (execs p env) (fun f _ s' => match f with | .next => wpAny M A (execs q env) Q E s' | f => Q f s') (fun e _ s' => E e s') pp s → Sem.wp M K (execs (p ++ q) env) (fun f _ s' => Q f s') (fun e _ s' => E e s') pp s
  | [], pp, s, h => (h : wpAny M A (execs q env) Q E s) K pp hK
  | st :: p, pp, s, h => by
    rw [execs_cons, Sem.wp_bind'] at h
    rw [List.cons_append, execs_cons, Sem.wp_bind']
    refine Sem.wp_mono M K _ (fun f p' s' h' => ?_) (fun _ _ _ h' => h') _ _ h
    cases f with
    | next => exact execs_append_wp hK h'
    | _ => exact h'
theorem execs_append {M : Model} {E : Value → Shared → Prop} {p q : List Stmt} {Q : Flow → Shared → Prop} (h : wpAny M A (execs p env) (fun f s' => match f with | .next => wpAny M A (execs q env) Q E s' | f => Q f s') E s) : wpAny M A (execs (p ++ q) env) Q E s :=
  fun K pp hK => execs_append_wp hK (h K pp hK)
theorem evSs_append {F : FT} {b : List S} : ∀ {a : List S} {ρ : Rho}, evSs F (a ++ b) ρ = seqOut (evSs F b) (evSs F a ρ)
  | [], ρ => rfl
  | st :: a, ρ => by
    show (match evS F st ρ with | .next ρ' => evSs F (a ++ b) ρ' | o => o) = seqOut (evSs F b) (match evS F st ρ with | .next ρ' => evSs F a ρ' | o => o)
    cases evS F st ρ with
    | next ρ' => exact evSs_append
    | _ => rfl

theorem noIf {body : List Stmt} {p4 : Pos} {test : Expr} {Q : Flow → Shared → Prop} {E : Value → Shared → Prop} (h : wpAny (model prog w) A (isTrue test env (eval test env)) (fun b s' => b = false ∧ Q .next s') E s) : wpAny (model prog w) A (exec (.If test body [] p4) env) Q E s := by
  refine wpAny_If (wpAny_mono h (fun b s' h' => ?_) fun _ _ e => e)
  obtain ⟨rfl, h'⟩ := h'
  exact wpAny_execs_nil h'

theorem st_any {eL eI : E} {pL pI elt : Expr} {xs : List PyData} {ys : List PyData} {x : Str} {px gp p1 p2 p3 p4 : Pos} {sc : Scope} {body : List Stmt} (G : GF prog w hb cO T F n) (hA : Room A n) (S : SS prog w hb A Γ env Xc s₀ No ρ o s) (t : TS h₁ hb σ c P ps env s₀) (hnf : codeAmong gp ps.toList = none) (hsc : genSc sc x = true)
    (hb1 : Γ.isBlt "any" "any" = true) (hL : wf T Γ eL pL = true) (hI : wf T Γ eI pI = true) (vL : ev F ρ none eL = .ok (.bool false)) (vI : ev F ρ none eI = .ok (.list xs)) (hfold : ∀ v, genFold (rb T Γ eI pI) env v = pure v) (hlen : xs.length = ys.length) (hy : ∀ y ∈ ys, y = .bool false)
    (helt : GElt prog w hb env sc x elt xs ys)
    {Q : Flow → Shared → Prop} {E : Value → Shared → Prop} (hQ : ∀ s₀' s' c', SS prog w hb A Γ env Xc s₀' No ρ o s' → TS h₁ hb σ c P (ps ++ #[rawInt gp.line, rawInt gp.col, .ref c']) env s₀' → Q .next s') :
    wpAny (model prog w) A (exec (.If (.BoolOp .Or [rb T Γ eL pL, .Call (.Name "any" p1) [.GeneratorExp elt [⟨.Name x px, rb T Γ eI pI, [], 0⟩] sc gp] [] p2] p3) body [] p4) env) Q E s := by
  refine noIf (isTrue_or ?_)
  have h1 := (main_E G hA eL Γ env ρ none _ _ s pL hL S.se).2.1
  rw [vL] at h1
  refine h1 (fun d e => ⟨false, (R.ok.inj e).symm⟩) (fun q => by cases q) _ _ (fun b s₁ e n1 => ?_) fun e s' k ek => by cases ek
  cases e
  have S₁ := S.nx n1
  refine isTrue_or (isTrue_plain (call1_blt (y := "any") S₁.se hb1 G.any rfl ?_) rfl)
  have h2 := (main_E G hA eI Γ env ρ none _ _ s₁ pI hI S₁.se).1
  rw [vI] at h2
  refine gen_list (RV := fun v => v = .bool false) S₁ t hnf hA.2.2 (by have := hA.1; omega) G.nolim hsc h2 hfold hlen helt (call_any hy) fun v s₀' s' c' hv S' t' _ => ?_
  subst hv
  exact wpAny_truthy_bool (isTrue_or_nil ⟨rfl, hQ s₀' s' c' S' t'⟩)

theorem st_sum {eX eI : E} {pX pI elt : Expr} {xs : List PyData} {ks : List Int} {x : Str} {px gp p1 p2 p3 p4 : Pos} {sc : Scope} {body : List Stmt} (G : GF prog w hb cO T F n) (hA : Room A n) (S : SS prog w hb A Γ env Xc s₀ No ρ o s) (t : TS h₁ hb σ c P ps env s₀) (hnf : codeAmong gp ps.toList = none) (hsc : genSc sc x = true)
    (hb1 : Γ.isBlt "sum" "sum" = true) (hX : wf T Γ eX pX = true) (hI : wf T Γ eI pI = true) {dX : PyData} (vX : ev F ρ none eX = .ok dX) (hcmp : cmpD .ne dX (.int ks.sum) = .ok (.bool false)) (vI : ev F ρ none eI = .ok (.list xs)) (hfold : ∀ v, genFold (rb T Γ eI pI) env v = pure v) (hlen : xs.length = (ks.map PyData.int).length)
    (helt : GElt prog w hb env sc x elt xs (ks.map PyData.int))
    {Q : Flow → Shared → Prop} {E : Value → Shared → Prop} (hQ : ∀ s₀' s' c', SS prog w hb A Γ env Xc s₀' No ρ o s' → TS h₁ hb σ c P (ps ++ #[rawInt gp.line, rawInt gp.col, .ref c']) env s₀' → Q .next s') :
    wpAny (model prog w) A (exec (.If (.Compare (rb T Γ eX pX) [.NotEq] [.Call (.Name "sum" p1) [.GeneratorExp elt [⟨.Name x px, rb T Γ eI pI, [], 0⟩] sc gp] [] p2] p3) body [] p4) env) Q E s := by
  refine noIf (wpAny_isTrue_Compare1 ?_ (marks_of rfl))
  have h1 := (main_E G hA eX Γ env ρ none _ _ s pX hX S.se).1
  rw [vX] at h1
  refine h1 (fun q => by cases q) _ _ (fun v s₁ d e n1 r _ => ?_) fun e s' k ek => by cases ek
  cases e
  have S₁ := S.nx n1
  have h2 := (main_E G hA eI Γ env ρ none _ _ s₁ pI hI S₁.se).1
  rw [vI] at h2
  refine call1_blt (y := "sum") S₁.se hb1 G.sum rfl ?_
  refine gen_list (RV := fun v => ∃ t, v = .int ks.sum t) S₁ t hnf hA.2.2 (by have := hA.1; omega) G.nolim hsc h2 hfold hlen helt call_sum fun v s₀' s' c' hv S' t' hk => ?_
  obtain ⟨tt, rfl⟩ := hv
  refine op_cmp (o := .ne) (X := XX Xc No env ρ o) (room_units hA) (.inl (r.to (fun _ p => p) fun a ob _ e d => hk a ob e d)) (.inl (.int _ _)) hcmp fun x e => ?_
  cases e
  exact wpAny_truthy_bool ⟨rfl, hQ s₀' s' c' S' t'⟩
end
end Mine

-- V35
namespace Mine
open PySem PySem.Calls PyProof.Rows PySem.W

theorem fm_congr {α β : Type} {f g : α → Option β} : ∀ {l : List α}, (∀ x ∈ l, f x = g x) → l.filterMap f = l.filterMap g
  | [], _ => rfl
  | x :: r, h => by
    rw [List.filterMap_cons, List.filterMap_cons, h x (.head _), fm_congr fun y hy => h y (.tail _ hy)]
theorem lookup_zip : ∀ {ns : List Str} {vs : List Value}, ns.Nodup → vs.length = ns.length → ns.filterMap (fun n => ((ns.zip vs).lookup n).map (n, ·)) = ns.zip vs
  | [], [], _, _ => rfl
  | n :: ns, v :: vs, hd, hl => by
    obtain ⟨h1, h2⟩ := List.nodup_cons.mp hd
    simp only [List.zip_cons_cons, List.filterMap_cons, List.lookup_cons, beq_self_eq_true, Option.map_some]
    congr 1
    refine (fm_congr fun m hm => ?_).trans (lookup_zip h2 (by simpa using hl))
    have hne : (m == n) = false := by
      rw [beq_eq_false_iff_ne]
      rintro rfl; exact h1 hm
    rw [hne]
  | [], _ :: _, _, h => by simp at h
  | _ :: _, [], _, h => by simp at h

theorem zip_has : ∀ {ns : List Str} {vs : List Value}, vs.length = ns.length → ∀ n ∈ ns, ((ns.zip vs).lookup n).isSome = true
  | n :: ns, v :: vs, hl, m, hm => by
    rw [List.zip_cons_cons, List.lookup_cons]
    cases q : m == n with
    | true => rfl
    | false =>
      rcases List.mem_cons.mp hm with rfl | hm
      · simp at q
      · exact zip_has (by simpa using hl) m hm
  | [], _, _, m, hm => by simp at hm
  | _ :: _, [], h, _, _ => by simp at h

theorem bind_plain {fd : FuncData} {names : List Str} (h1 : fd.params.posonlyargs = []) (h2 : fd.params.args.map (·.arg) = names) (h3 : fd.params.vararg = none) (h4 : fd.params.kwonlyargs = []) (h5 : fd.params.kwarg = none) (h6 : fd.defaults = .none) (hnd : names.Nodup)
    (vals : List Value) (hl : vals.length = names.length) : bindArgs fd ⟨vals, []⟩ = pure (names.zip vals) := by
  have hm : (names.filter fun n => ((names.zip vals).lookup n).isNone) = [] := by
    rw [List.filter_eq_nil_iff]
    intro n hn
    have := zip_has hl n hn
    cases q : (names.zip vals).lookup n with
    | none => rw [q] at this; cases this
    | some v => simp
  have hf := lookup_zip hnd hl
  unfold bindArgs
  simp only [h1, h2, h3, h4, h5, h6, List.map_nil, List.nil_append, List.append_nil, List.forIn_nil, pure_bind]
  have hs : seqItems? .none = pure none := rfl
  rw [hs]
  simp only [pure_bind, Option.getD_none, List.length_nil, Nat.sub_zero, List.drop_nil, List.take_length, hm, hl, hf, List.zip_nil_right, List.forIn_nil]
  simp


structure TopS (p : Program) (loose : List Str) (mg mb : Str → Option Value) (h : Heap) : Prop where
  g : h.Ns mainGlobals mg
  b : h.Ns builtinsNs mb
  nolimit : h.NoLimit
  fn : ∀ d ∈ recsOf p, ∃ a o pm code doc, mg d.name = some (.ref a) ∧ h.get? a = some o ∧ o.data = .func (docDef d.name d.params d.body d.scope pm code doc) ∧ h.CodeRec code d.name
  free : ∀ x, x ∉ startupNames → x ∉ loose → x ∉ (recsOf p).map (·.name) → x ∉ (litsOf p).map (·.1) → x ∉ (clssOf p loose).map (·.name) → mg x = none
  builtins : ∀ x : Str, x ≠ "__name__" → mb x = bootBuiltins x

noncomputable def recChk (T : Tb) (d : DefRec) (vars : List Str) (np : Nat) (sts : List S) : Bool :=
  wfSs T ⟨d.scope, vars, none, ""⟩ sts d.body && decide (vars.Nodup) && d.scope.kind == .function && !d.scope.isGenerator && !d.scope.isCoroutine &&
      d.params.posonlyargs.isEmpty && d.params.args.map (·.arg) == vars.take np && d.params.vararg.isNone && d.params.kwonlyargs.isEmpty && d.params.kwarg.isNone &&
      decide (np ≤ vars.length) && (List.range np).all fun i => (match vars[i]? with | some x => Sc.isVar ⟨d.scope, vars, none, ""⟩ i x | none => false)
noncomputable def defChk (q : Program) (T : Tb) (y : Str) (vars : List Str) (np : Nat) (sts : List S) : Bool := match (recsOf q).find? fun d => d.name == y with
  | some d => recChk T d vars np sts
  | none => false

noncomputable def DefC (q : Program) (T : Tb) (y : Str) (vars : List Str) (np : Nat) (sts : List S) : Prop := defChk q T y vars np sts = true ∧ ∀ d, ((recsOf q).find? fun d => d.name == y) = some d → rbSs T ⟨d.scope, vars, none, ""⟩ sts d.body = d.body
theorem rec_ok {T : Tb} {d : DefRec} {vars : List Str} {np : Nat} {sts : List S} {pm cd doc : Value} (h : recChk T d vars np sts = true) (hr : rbSs T ⟨d.scope, vars, none, ""⟩ sts d.body = d.body) : DefOk T ⟨d.scope, vars, none, ""⟩ (docDef d.name d.params d.body d.scope pm cd doc) (List.range np) (vars.take np) d.body sts := by
  unfold recChk at h
  simp only [Bool.and_eq_true, decide_eq_true_eq, beq_iff_eq, Bool.not_eq_true', List.isEmpty_iff, Option.isNone_iff_eq_none, List.all_eq_true] at h
  obtain ⟨⟨⟨⟨⟨⟨⟨⟨⟨⟨⟨h1, h2⟩, h3⟩, h4⟩, h5⟩, h10⟩, h11⟩, h12⟩, h13⟩, h14⟩, h16⟩, h17⟩ := h
  have hlen : (vars.take np).length = np := by rw [List.length_take]; omega
  refine ⟨rfl, rfl, rfl, h2, h3, h4, h5, rfl, rfl, rfl, fun vals hl => bind_plain h10 h11 h12 h13 h14 rfl (List.Sublist.nodup (List.take_sublist _ _) h2) vals hl, ⟨by rw [List.length_range, hlen], fun j i x h1 h2' => ?_⟩, h1, hr⟩
  have hj : j < np := by
    have := (List.getElem?_eq_some_iff.mp h1).1
    simpa using this
  have hi : i = j := by
    rw [List.getElem?_range hj] at h1
    exact (Option.some.inj h1).symm
  subst hi
  have := h17 i (List.mem_range.mpr hj)
  rw [List.getElem?_take, if_pos hj] at h2'
  rw [h2'] at this
  exact this
theorem defChk_ok {q : Program} {loose : List Str} {mg mb : Str → Option Value} {hb : Heap} {T : Tb} {y : Str} {vars : List Str} {np : Nat} {sts : List S} (TT : TopS q loose mg mb hb) (hc : DefC q T y vars np sts) :
    ∃ a ob fd sc body, Glb hb y (.ref a) ∧ hb.get? a = some ob ∧ ob.data = .func fd ∧ hb.CodeRec fd.code fd.qualname ∧ DefOk T ⟨sc, vars, none, ""⟩ fd (List.range np) (vars.take np) body sts := by
  obtain ⟨h, hr⟩ := hc
  unfold defChk at h
  cases hf : (recsOf q).find? fun d => d.name == y with
  | none => rw [hf] at h; cases h
  | some d =>
    rw [hf] at h
    have hm := List.mem_of_find?_eq_some hf
    have hn : d.name = y := by simpa using List.find?_some hf
    obtain ⟨a, o, pm, code, doc, h1, h2, h3, h4⟩ := TT.fn d hm
    rw [hn] at h1
    exact ⟨a, o, _, d.scope, d.body, ⟨mg, TT.g, h1⟩, h2, h3, h4, rec_ok h (hr d hf)⟩

noncomputable def bltNames : List (Str × Value) := [("len", .builtin "len"), ("abs", .builtin "abs"), ("min", .builtin "min"), ("sum", .builtin "sum"), ("any", .builtin "any"), ("all", .builtin "all"), ("sorted", .builtin "sorted"), ("list", .type "list"), ("dict", .type "dict"), ("str", .type "str"),
  ("range", .type "range"), ("type", .type "type"), ("int", .type "int"), ("bool", .type "bool"), ("ValueError", .type "ValueError")]
theorem boot_ok : ∀ p ∈ bltNames, bootBuiltins p.1 = some p.2 ∧ p.1 ≠ "__name__" := by decide +kernel
noncomputable def bltChk (q : Program) (loose : List Str) : Bool := bltNames.all fun p => !startupNames.contains p.1 && !loose.contains p.1 && !((recsOf q).map (·.name)).contains p.1 && !((litsOf q).map (·.1)).contains p.1 && !((clssOf q loose).map (·.name)).contains p.1
theorem blt_ok {q : Program} {loose : List Str} {mg mb : Str → Option Value} {hb : Heap} (TT : TopS q loose mg mb hb) (h : bltChk q loose = true) {y : Str} {v : Value} (hm : (y, v) ∈ bltNames) : Blt hb y v := by
  unfold bltChk at h
  rw [List.all_eq_true] at h
  have h1 := h _ hm
  simp only [Bool.and_eq_true, Bool.not_eq_true', List.contains_eq_mem, decide_eq_false_iff_not] at h1
  obtain ⟨b1, b2⟩ := boot_ok _ hm
  exact ⟨mg, mb, TT.g, TT.free y h1.1.1.1.1 h1.1.1.1.2 h1.1.1.2 h1.1.2 h1.2, TT.b, (TT.builtins y b2).trans b1⟩
noncomputable def oomChk (q : Program) : Bool := (ownsOf q).any fun o => o.name == "OutOfMemory" && o.bm == [.type "Exception", .type "BaseException", .type "object"] && o.newId == "Exception.__new__"
theorem oom_ok {q : Program} {loose : List Str} {mean : ExcName → Option Value} {mg mb : Str → Option Value} {hb : Heap} (TT : Top q loose mean mg mb hb) (h : oomChk q = true) : ∃ cO, OwnCls "OutOfMemory" cO [.type "Exception", .type "BaseException", .type "object"] "Exception.__new__" mg hb := by
  unfold oomChk at h
  rw [List.any_eq_true] at h
  obtain ⟨o, ho, h⟩ := h
  simp only [Bool.and_eq_true, beq_iff_eq] at h
  obtain ⟨⟨h1, h2⟩, h3⟩ := h
  obtain ⟨C, O, _⟩ := TT.own o ho
  rw [h1, h2, h3] at O
  exact ⟨C, O.own⟩

noncomputable def GlOk (prog : Program) (w : World) (hb : Heap) (T : Tb) (gls : List PyData) : Prop := ∀ (k : Nat) y d, T.gl[k]? = some y → gls[k]? = some d → ∃ v, Glb hb y v ∧ Rp prog w hb (fun a => hb.get? a ≠ none) v d
end Mine

-- V36
namespace Mine
open PySem PySem.Calls PyProof.Rows PySem.W

noncomputable def FTn (gls : List PyData) (fs : List (List PyData → R PyData)) : FT := ⟨fun k ds => match fs[k]? with | some f => f ds | none => .stuck, gls, fun _ => 0⟩

theorem FTn_snoc {gls : List PyData} {fs : List (List PyData → R PyData)} {g : List PyData → R PyData} {k : Nat} : (FTn gls (fs ++ [g])).fn k = if k = fs.length then g else (FTn gls fs).fn k := by
  funext ds
  simp only [FTn, List.getElem?_append]
  by_cases h : k < fs.length
  · rw [if_pos h, if_neg (by omega)]
  · rw [if_neg h]
    by_cases h2 : k = fs.length
    · subst h2
      simp
    · rw [if_neg h2]
      have h3 : fs[k]? = none := List.getElem?_eq_none (by omega)
      have h4 : ([g] : List (List PyData → R PyData))[k - fs.length]? = none := List.getElem?_eq_none (by simp; omega)
      rw [h3, h4]

section
variable {prog : Program} {w : World} {q : Program} {hb : Heap} {mg mb : Str → Option Value} {loose : List Str} {T : Tb} {gls : List PyData} {cO : Addr}

theorem gf_zero (TT : TopS q loose mg mb hb) (h1 : ∀ (k : Nat) (y : Str), T.fn[k]? = some y → ∃ v n b, DefC q T y v n b) (h2 : GlOk prog w hb T gls) (h3 : bltChk q loose = true) (h4 : OwnCls "OutOfMemory" cO [.type "Exception", .type "BaseException", .type "object"] "Exception.__new__" mg hb) : GF prog w hb cO T (FTn gls []) 0 := by
  have hst : ∀ k ds, (FTn gls []).fn k ds = .stuck := fun k ds => rfl
  have B : ∀ {y : Str} {v : Value}, (y, v) ∈ bltNames → Blt hb y v := fun hm => blt_ok TT h3 hm
  refine ⟨TT.nolimit, fun k y hy => ?_, fun k y hy _ => ?_, fun k ds _ => hst k ds, fun k y d hy hd => h2 k y d hy hd, B (by decide), B (by decide), B (by decide), B (by decide), B (by decide), B (by decide), B (by decide), B (by decide), B (by decide), B (by decide), B (by decide), B (by decide), B (by decide), B (by decide), B (by decide), ⟨mg, TT.g, h4.bound⟩, ⟨mg, TT.g, h4⟩⟩
  · obtain ⟨v, n, b, hd⟩ := h1 k y hy
    obtain ⟨a, ob, fd, sc, body, g1, g2, g3, _⟩ := defChk_ok TT hd
    exact ⟨a, ob, fd, g1, g2, g3, fun A s X vals ds _ _ _ _ _ _ _ hne => absurd (hst k ds) hne⟩
  · obtain ⟨v, n, b, hd⟩ := h1 k y hy
    obtain ⟨a, ob, fd, sc, body, g1, g2, g3, _⟩ := defChk_ok TT hd
    exact ⟨a, ob, fd, g1, g2, g3, fun A s X vals ds _ _ _ _ _ _ _ hne => absurd (hst k ds) hne⟩

theorem gf_step {fs : List (List PyData → R PyData)} {g : List PyData → R PyData} {y : Str} {v : List Str} {n : Nat} {b : List S} (TT : TopS q loose mg mb hb) (G : GF prog w hb cO T (FTn gls fs) fs.length) (hy : T.fn[fs.length]? = some y) (hc : DefC q T y v n b) (hff : T.ff ≠ some fs.length)
    (hg : ∀ ds, g ds ≠ .stuck → bodyR (fnR (FTn gls fs) v.length (List.range n) b ds) = g ds) : GF prog w hb cO T (FTn gls (fs ++ [g])) (fs ++ [g]).length := by
  obtain ⟨a, ob, fd, sc, body, g1, g2, g3, g4, D⟩ := defChk_ok TT hc
  have hC := (callOk_of (nv := v.length) G D g2 g3 g4).to hg
  have hlen : (fs ++ [g]).length = fs.length + 1 := by simp
  refine { G with fn := fun k y' hy' => ?_, ff := fun k y' hy' hk => ?_, few := fun k ds hk => ?_ }
  · rw [FTn_snoc]
    by_cases h : k = fs.length
    · subst h
      rw [if_pos rfl]
      rw [hy] at hy'; cases hy'
      exact ⟨a, ob, fd, g1, g2, g3, hC⟩
    · rw [if_neg h]; exact G.fn k y' hy'
  · rw [FTn_snoc]
    by_cases h : k = fs.length
    · subst h; exact absurd hk hff
    · rw [if_neg h]; exact G.ff k y' hy' hk
  · rw [FTn_snoc, if_neg (by omega)]
    exact G.few k ds (by omega)
end
end Mine

-- V37
namespace Mine
open PySem PySem.Calls PyProof.Rows PySem.W

theorem rpl_ints {prog : Program} {w : World} {h : Heap} {P : Addr → Prop} : ∀ {vs : List Value} {ns : List Int}, IntsAre vs ns → RpL prog w h P vs (ns.map .int)
  | _, _, .nil => .nil
  | _, _, .cons n t r => .cons (.int n t) (rpl_ints r)

theorem well_list {P : Params} {h : Heap} {l : Addr} {vs : List Value} {d : WData} (W : Well P h (.ref l) d) (hL : h.IsList l vs.toArray) : ∃ m, h.get? l = some { cls := .type "list", data := .seq vs.toArray m } := by
  obtain ⟨o, e, hc, n, hd⟩ := hL
  cases W with
  | list g r =>
    rw [g] at e; cases e
    cases hd
    exact ⟨_, g⟩
  | bytearray g => rw [g] at e; cases e; exact absurd (Value.type.inj hc) (by decide)
  | tuple g r => rw [g] at e; cases e; exact absurd (Value.type.inj hc) (by decide)
  | dict g r => rw [g] at e; cases e; exact absurd (Value.type.inj hc) (by decide)
  | set g _ _ _ => rw [g] at e; cases e; exact absurd (Value.type.inj hc) (by decide)
  | frozenset g _ _ _ => rw [g] at e; cases e; exact absurd (Value.type.inj hc) (by decide)
  | obj g _ _ _ => rw [g] at e; cases e; cases hc
end Mine

-- V38
namespace Mine
open PySem PySem.Calls PyProof.Rows PySem.W

structure Df where
  v : List Str
  n : Nat
  b : List S
noncomputable def rdF (ff : Bool) (gls : List PyData) (fs : List (List PyData → R PyData)) (d : Df) (ds : List PyData) : R PyData :=
  if ff then bodyF (fnR (FTn gls fs) d.v.length (List.range d.n) d.b ds) else bodyR (fnR (FTn gls fs) d.v.length (List.range d.n) d.b ds)
noncomputable def fsUp (ff : Option Nat) (gls : List PyData) (df : Nat → Df) : Nat → List (List PyData → R PyData)
  | 0 => []
  | k + 1 => fsUp ff gls df k ++ [rdF (ff == some k) gls (fsUp ff gls df k) (df k)]
noncomputable def rdAt (ff : Option Nat) (gls : List PyData) (df : Nat → Df) (k : Nat) : List PyData → R PyData := rdF (ff == some k) gls (fsUp ff gls df k) (df k)

theorem fsUp_len {ff : Option Nat} {gls : List PyData} {df : Nat → Df} : ∀ k, (fsUp ff gls df k).length = k
  | 0 => rfl
  | k + 1 => by rw [fsUp, List.length_append, fsUp_len k]; rfl
theorem fsUp_fn {ff : Option Nat} {gls : List PyData} {df : Nat → Df} {j : Nat} : ∀ {k : Nat}, j < k → (FTn gls (fsUp ff gls df k)).fn j = rdAt ff gls df j
  | k + 1, h => by
    rw [fsUp, FTn_snoc, fsUp_len]
    by_cases q : j = k
    · subst q; rw [if_pos rfl]; rfl
    · rw [if_neg q]; exact fsUp_fn (by omega)
noncomputable def allChk (q : Program) (T : Tb) (df : Nat → Df) : Bool := (List.range T.fn.length).all fun k => match T.fn[k]? with
  | some y => defChk q T y (df k).v (df k).n (df k).b
  | _ => false
noncomputable def recAt (q : Program) (T : Tb) (k : Nat) : Option DefRec := match T.fn[k]? with
  | some y => (recsOf q).find? fun d => d.name == y
  | none => none
noncomputable def rebOf (q : Program) (T : Tb) (df : Nat → Df) (k : Nat) : List Stmt := match recAt q T k with
  | some d => rbSs T ⟨d.scope, (df k).v, none, ""⟩ (df k).b d.body
  | none => []
noncomputable def bodOf (q : Program) (T : Tb) (k : Nat) : List Stmt := match recAt q T k with
  | some d => d.body
  | none => []
noncomputable def rebs (q : Program) (T : Tb) (df : Nat → Df) : List (List Stmt) := (List.range T.fn.length).map (rebOf q T df)
noncomputable def bods (q : Program) (T : Tb) : List (List Stmt) := (List.range T.fn.length).map (bodOf q T)

theorem allChk_at {q : Program} {T : Tb} {df : Nat → Df} (h1 : allChk q T df = true) (h2 : rebs q T df = bods q T) {k : Nat} {y : Str} (hy : T.fn[k]? = some y) : DefC q T y (df k).v (df k).n (df k).b := by
  have hk := (List.getElem?_eq_some_iff.mp hy).1
  constructor
  · unfold allChk at h1
    rw [List.all_eq_true] at h1
    have := h1 k (List.mem_range.mpr hk)
    rw [hy] at this
    exact this
  · intro d hd
    have e := congrArg (fun l => l[k]?) h2
    simp only [rebs, bods, List.getElem?_map, List.getElem?_range hk, Option.map_some, Option.some.injEq] at e
    have hr : recAt q T k = some d := by unfold recAt; rw [hy]; exact hd
    unfold rebOf bodOf at e
    rw [hr] at e
    exact e

theorem gf_all {prog : Program} {w : World} {q : Program} {hb : Heap} {mg mb : Str → Option Value} {loose : List Str} {T : Tb} {gls : List PyData} {df : Nat → Df} {cO : Addr} (hff : T.ff = none) (TT : TopS q loose mg mb hb) (h1 : allChk q T df = true) (h1' : rebs q T df = bods q T) (h2 : GlOk prog w hb T gls) (h3 : bltChk q loose = true) (h4 : OwnCls "OutOfMemory" cO [.type "Exception", .type "BaseException", .type "object"] "Exception.__new__" mg hb) : ∀ k, k ≤ T.fn.length → GF prog w hb cO T (FTn gls (fsUp T.ff gls df k)) (fsUp T.ff gls df k).length
  | 0, _ => gf_zero TT (fun k y hy => ⟨_, _, _, allChk_at h1 h1' hy⟩) h2 h3 h4
  | k + 1, hk => by
    have G := gf_all (prog := prog) (w := w) hff TT h1 h1' h2 h3 h4 k (by omega)
    obtain ⟨y, hy⟩ : ∃ y, T.fn[k]? = some y := ⟨_, List.getElem?_eq_getElem (by omega)⟩
    have hc := allChk_at h1 h1' hy
    rw [fsUp]
    have hf : ¬ T.ff = some k := by rw [hff]; exact nofun
    refine gf_step (y := y) (v := (df k).v) (n := (df k).n) (b := (df k).b) TT G (by rw [fsUp_len]; exact hy) hc (by rw [fsUp_len]; exact hf) fun ds _ => ?_
    have : (T.ff == some k) = false := by simpa using hf
    rw [this]; simp [rdF]
end Mine

-- W3
namespace Mine
open PySem PySem.Calls PyProof.Rows PySem.W

noncomputable def hole (h : Heap) (P : Addr) : Heap := h.update P fun ob => { ob with data := .freed }
theorem hole_P {h : Heap} {P : Addr} : (hole h P).get? P = none := by
  cases e : (hole h P).get? P with
  | none => rfl
  | some ob =>
    obtain ⟨e1, e2⟩ := Heap.get?_some_iff.mp e
    cases h
    simp only [hole, Heap.update, Array.getElem?_modify, if_true, Option.map_eq_some_iff] at e1
    obtain ⟨o', _, rfl⟩ := e1
    cases e2
theorem hole_other {h : Heap} {P b : Addr} (q : b ≠ P) : (hole h P).get? b = h.get? b := Heap.get?_update_other _ _ (Ne.symm q)
section
variable {h : Heap} {P : Addr} (tP : h.get? P = some { cls := .none, data := .fields #[] })
include tP
theorem hole_ext : Heap.ExtBut P h (hole h P) := fun _ _ q e => (hole_other q).trans e
theorem hole_ns {a : Addr} {m : Str → Option Value} (x : h.Ns a m) : (hole h P).Ns a m := by
  refine x.extBut (hole_ext tP) fun q => ?_
  obtain ⟨o, e, d⟩ := ns_not_fields x
  rw [q, tP] at e; cases e
  exact d _ rfl
theorem hole_get {a : Addr} {o : Obj} (e : h.get? a = some o) (d : ∀ vs, o.data ≠ .fields vs) : (hole h P).get? a = some o := by
  refine (hole_other fun q => ?_).trans e
  rw [q, tP] at e; cases e
  exact d _ rfl
theorem Top.hole {q : Program} {loose : List Str} {mean : ExcName → Option Value} {mg mb : Str → Option Value} (T : Top q loose mean mg mb h) : TopS q loose mg mb (hole h P) where
  g := hole_ns tP T.g
  b := hole_ns tP T.b
  nolimit := let ⟨mc, n, e⟩ := T.nolimit; ⟨mc, hole_ns tP n, e⟩
  fn := fun d hd => by
    obtain ⟨a, o, pm, code, doc, h1, h2, h3, c, oc, vs, t, hc1, hc2, hc3, hc4⟩ := T.fn d hd
    refine ⟨a, o, pm, code, doc, h1, hole_get tP h2 (fun vs z => by rw [h3] at z; cases z), h3, c, oc, vs, t, hc1, (hole_other fun z => ?_).trans hc2, hc3, hc4⟩
    rw [z, tP] at hc2; cases hc2
    cases hc3
    cases hc4
  free := T.free
  builtins := T.builtins
theorem own_tail {bmB tl : List Value} (T : OwnTail h bmB tl) : OwnTail (hole h P) bmB tl := by
  induction T with
  | base => exact .base
  | own hA hN hq _ ih => exact .own (hole_get tP hA (fun vs z => by cases z)) (hole_ns tP hN) hq ih
theorem own_hole {x : Str} {C : Addr} {bm : List Value} {newId : String} {mg : Str → Option Value} (O : OwnCls x C bm newId mg h) : OwnCls x C bm newId mg (hole h P) := by
  obtain ⟨bm', N, nm, q, bs, hdct, sn, sub, ab, col, dd, k0, k1, k2, k3, k5, mN, hC, hN, hni, T⟩ := O.obj
  exact ⟨O.bound, bm', N, nm, q, bs, hdct, sn, sub, ab, col, dd, k0, k1, k2, k3, k5, mN, hole_get tP hC (fun vs z => by cases z), hole_ns tP hN, hni, own_tail tP T⟩
end

structure DefOk0 (Γ : Sc) (fd : FuncData) (pis : List Nat) (names : List Str) (code : List Stmt) : Prop where
  body : fd.body = .stmts code
  scope : Γ.fs = fd.scope
  cs : Γ.cs = none
  nodup : Γ.vars.Nodup
  kind : fd.scope.kind = .function
  gen : fd.scope.isGenerator = false
  co : fd.scope.isCoroutine = false
  gl : fd.globals = mainGlobals
  bl : fd.builtins = builtinsNs
  clo : fd.closure = []
  bind : ∀ vals, vals.length = names.length → bindArgs fd ⟨vals, []⟩ = pure (names.zip vals)
  par : pis.length = names.length ∧ ∀ (j i : Nat) (x : Str), pis[j]? = some i → names[j]? = some x → Γ.isVar i x = true
noncomputable def recChk0 (d : DefRec) (vars : List Str) (np : Nat) : Bool :=
  decide (vars.Nodup) && d.scope.kind == .function && !d.scope.isGenerator && !d.scope.isCoroutine &&
      d.params.posonlyargs.isEmpty && d.params.args.map (·.arg) == vars.take np && d.params.vararg.isNone && d.params.kwonlyargs.isEmpty && d.params.kwarg.isNone &&
      decide (np ≤ vars.length) && (List.range np).all fun i => (match vars[i]? with | some x => Sc.isVar ⟨d.scope, vars, none, ""⟩ i x | none => false)
theorem rec_ok0 {d : DefRec} {vars : List Str} {np : Nat} {pm cd doc : Value} (h : recChk0 d vars np = true) : DefOk0 ⟨d.scope, vars, none, ""⟩ (docDef d.name d.params d.body d.scope pm cd doc) (List.range np) (vars.take np) d.body := by
  unfold recChk0 at h
  simp only [Bool.and_eq_true, decide_eq_true_eq, beq_iff_eq, Bool.not_eq_true', List.isEmpty_iff, Option.isNone_iff_eq_none, List.all_eq_true] at h
  obtain ⟨⟨⟨⟨⟨⟨⟨⟨⟨⟨h2, h3⟩, h4⟩, h5⟩, h10⟩, h11⟩, h12⟩, h13⟩, h14⟩, h16⟩, h17⟩ := h
  have hlen : (vars.take np).length = np := by rw [List.length_take]; omega
  refine ⟨rfl, rfl, rfl, h2, h3, h4, h5, rfl, rfl, rfl, fun vals hl => bind_plain h10 h11 h12 h13 h14 rfl (List.Sublist.nodup (List.take_sublist _ _) h2) vals hl, ⟨by rw [List.length_range, hlen], fun j i x h1 h2' => ?_⟩⟩
  have hj : j < np := by
    have := (List.getElem?_eq_some_iff.mp h1).1
    simpa using this
  have hi : i = j := by
    rw [List.getElem?_range hj] at h1
    exact (Option.some.inj h1).symm
  subst hi
  have := h17 i (List.mem_range.mpr hj)
  rw [List.getElem?_take, if_pos hj] at h2'
  rw [h2'] at this
  exact this

section
variable {prog : Program} {w : World} {hb : Heap} {cO : Addr} {T : Tb} {F : FT} {Γ : Sc} {fd : FuncData} {pis : List Nat} {names : List Str} {body : List Stmt} {nv k : Nat}
theorem call_in {A : Around} {s : Shared} {X : Addr → Prop} {vals : List Value} {ds : List PyData} {a : Addr} {o : Obj} {ρ : Rho} (G : hb.NoLimit) (D : DefOk0 Γ fd pis names body) (ho : hb.get? a = some o) (hd : o.data = .func fd) (hcd : hb.CodeRec fd.code fd.qualname)
    (hA : Room A (k + 1)) (hst : hb.StaysIn s.heap) (hstk : Stk hb A s.heap) (hbare : AllBare s.gens) (hX : XIn X s.heap) (hXn : ∀ a, X a → hb.get? a = none) (r : RpL prog w s.heap (fun a => ¬ X a) vals ds) (hρ : setVs pis ds (List.replicate nv .un) = some ρ)
    {Q : Value → Shared → Prop} {E : Value → Shared → Prop}
    (hbody : ∀ o1 s1, Room (A.deeper (callEnvC fd s.heap.objs.size a)) k → SS prog w hb (A.deeper (callEnvC fd s.heap.objs.size a)) Γ (callEnvC fd s.heap.objs.size a) X s No ρ o1 s1 → wpAny (model prog w) (A.deeper (callEnvC fd s.heap.objs.size a)) (execs body (callEnvC fd s.heap.objs.size a)) (fun f s' => match f with | .ret v => Q v s' | _ => False) (fun _ _ => False) s1) :
    wpAny (model prog w) A (call (.ref a) vals) Q E s := by
  have hlen : vals.length = names.length := by rw [r.length, ← setVs_len hρ, D.par.1]
  refine wpAny_call (codeAny_call_function (by have := hA.1; show A.depth < 1000; omega) (hst _ _ ho) hd D.co D.gen D.body (hcd.keeps hst) ?_)
  rw [D.bind vals hlen, D.clo]
  refine wpAny_pure ?_
  have S0 := ss_start (prog := prog) (w := w) (a := a) (n := nv) D.scope D.cs D.nodup D.kind D.gl D.bl hst hstk hbare hX hXn
  simp only [newFunctionEnv, Option.isSome_none, Bool.false_eq_true, if_false]
  refine wpAny_bind (wpAny_alloc ?_)
  refine wpAny_bind (wpAny_layCells _ (fun name kind cells => by cases hkc : kind == NameKind.cell <;> simp [hkc]) _ _ _ _ ?_)
  have hsz : ({ s with heap := s.heap.push { cls := .type "frame", data := .dict #[] } } : Shared).heap.objs.size = s.heap.objs.size + 1 := Heap.size_push ..
  rw [hsz]
  have e2 : (names.zip vals).map (·.2) = vals := by
    rw [List.map_snd_zip]
    omega
  have rr : RpL prog w (pushCells (s.heap.push { cls := .type "frame", data := .dict #[] }) fd.scope.names) (fun b => ¬ XX X No (callEnvC fd s.heap.objs.size a) (List.replicate nv .un) (fun _ => 0) b) ((names.zip vals).map (·.2)) ds := by
    rw [e2]
    refine r.there.to (fun b q => ?_) fun b ob _ e _ => pushCells_keeps _ _ b ob (Heap.get?_push_of_some _ e)
    rintro (h | h | h)
    · exact q.1 h
    · exact h
    · exact q.2.2 (S0.nn_new h)
  refine wpAny_bind (st_binds (env := callEnvC fd s.heap.objs.size a) (Γ := Γ) _ (fun _ _ _ => rfl) (is := pis) (binds := names.zip vals) (ds := ds) (ρ' := ρ) ⟨by rw [List.length_zip, hlen, Nat.min_self, D.par.1], fun j i x v h1 h2 => ?_⟩ S0 rr hρ fun o1 s1 S1 => wpAny_pure ⟨?_, codeAny_func ?_⟩)
  · rw [List.getElem?_zip_eq_some] at h2
    exact D.par.2 j i x h1 h2.1
  · exact G.keeps (S1.kp.stays hst)
  · have hA' : Room (A.deeper (callEnvC fd s.heap.objs.size a)) k := by
      refine ⟨?_, ?_, hA.2.2⟩
      · have := hA.1
        show A.depth + 1 + k < 900
        omega
      · have := hA.2.1
        show A.units + 3 + 10 * k + 200 < 9900
        omega
    refine wpAny_mono (hbody o1 s1 hA' S1) (fun f s' h => ?_) fun _ _ e => e.elim
    cases f with
    | ret v => exact h
    | _ => exact h.elim

theorem law_call0 {q : Program} {loose : List Str} {mean : ExcName → Option Value} {mg mb : Str → Option Value} {s₁ : Shared} {d : DefRec} {vars : List Str} {fa l : Addr} {vs : List Value} {ns : List Int} {m : Nat} (TT : Top q loose mean mg mb s₁.heap) (hd : d ∈ recsOf q) (hname : d.name = "law") (hchk : recChk0 d vars 1 = true) (hk : k < 50)
    (hgens : AllBare s₁.gens) (hmg : mg "law" = some (.ref fa)) (hl : s₁.heap.get? l = some { cls := .type "list", data := .seq vs.toArray m }) (hI : IntsAre vs ns) (hlen : ns.length ≤ 63)
    {Q : Value → Shared → Prop} {E : Value → Shared → Prop}
    (hbody : ∀ (A : Around) (env : Env) (c P : Addr) (o1 : Nat → Addr) (s1 : Shared), s₁.heap.get? P = some { cls := .none, data := .fields #[] } → Room A k → SS prog w (hole s₁.heap P) A ⟨d.scope, vars, none, ""⟩ env No s₁ No (.v (.list (ns.map .int)) :: List.replicate (vars.length - 1) .un) o1 s1 → TS s₁.heap (hole s₁.heap P) s₁ c P #[] env s₁ →
      wpAny (model prog w) A (execs d.body env) (fun f s' => match f with | .ret v => Q v s' | _ => False) (fun _ _ => False) s1) : wpAny (model prog w) callerA (call (.ref fa) [.ref l]) Q E s₁ := by
  obtain ⟨a, o, pm, code, doc, g1, g2, g3, g4⟩ := TT.fn d hd
  obtain ⟨a', o', fd, c, P, f1, f2, f3, f4, f5, f6⟩ := TT.tab d hd
  rw [hname] at g1 f1
  rw [hmg] at g1 f1
  cases g1
  cases f1
  rw [g2] at f2; cases f2
  rw [g3] at f3
  injection f3 with f3
  have f4 : code = .ref c := by rw [← f3] at f4; exact f4
  subst f4
  have tP := f6.2
  have TS' := Top.hole tP TT
  obtain ⟨a2, o2, pm2, code2, doc2, k1, k2, k3, k4⟩ := TS'.fn d hd
  rw [hname, hmg] at k1
  cases k1
  have hne : fa ≠ P := fun z => by
    rw [z, tP] at g2; cases g2; cases g3
  rw [hole_other hne, g2] at k2
  cases k2
  rw [g3] at k3
  injection k3 with k3
  have hcode : code2 = .ref c := (congrArg FuncData.code k3).symm
  have D := rec_ok0 (pm := pm) (cd := .ref c) (doc := doc) hchk
  rw [hcode] at k4
  obtain ⟨bm, ob, b1, b2, b3, b4, b5, b6⟩ := TT.bmain
  have hst : ∀ b ob, s₁.heap.get? b = some ob → b ≠ P → (hole s₁.heap P).get? b = some ob := fun b ob e z => (hole_other z).trans e
  have hcs : P ≠ cStatics := fun z => by
    obtain ⟨mc, n, _⟩ := TT.nolimit
    obtain ⟨o3, e3, d3⟩ := ns_not_fields n
    rw [← z, tP] at e3; cases e3
    exact d3 _ rfl
  refine call_in (hb := hole s₁.heap P) (k := k) (nv := vars.length) (X := No) (ds := [.list (ns.map .int)]) (ρ := .v (.list (ns.map .int)) :: List.replicate (vars.length - 1) .un) TS'.nolimit D ((hole_other hne).trans g2) g3 k4 ⟨?_, ?_, rfl⟩ (fun b ob e => ?_) ⟨⟨[], rfl, trivial⟩, fun b hb => by cases hb⟩ hgens (fun a h => h.elim) (fun a h => h.elim) ?_ ?_ fun o1 s1 hA S1 => ?_
  · show 1 + claimMargin + (k + 1) < 900
    have : claimMargin = 300 := rfl
    omega
  · show 4 + 10 * (k + 1) + 200 < 9900
    omega
  · rw [← hole_other (h := s₁.heap) (P := P)]
    · exact e
    · rintro rfl
      rw [hole_P] at e; cases e
  · refine .cons (.list (fun h => h) hl ?_ (rpl_ints hI)) .nil
    rw [List.length_map, LIM_eq]; omega
  · have hv : 1 ≤ vars.length := by
      unfold recChk0 at hchk
      simp only [Bool.and_eq_true, decide_eq_true_eq] at hchk
      exact hchk.1.2
    obtain ⟨j, hj⟩ : ∃ j, vars.length = j + 1 := ⟨vars.length - 1, by omega⟩
    rw [hj]
    rfl
  · refine hbody _ _ c P o1 s1 tP hA S1 ⟨Based.start f5 f6 hcs, ⟨mg, bm, ob, TT.g, b1, b2, b3, b4, b5, b6⟩, rfl, fun b ob z e => hst b ob e z, hole_P, Nat.le_refl _, rfl, hgens⟩
end
end Mine

-- A1
namespace Mine.L1
open PySem Mine

noncomputable def tb : Tb := ⟨[], ["_law_word", "_law_shape", "_law_laid", "fresh_memory", "blocks_of", "swept", "allocate", "_law_free", "fields_of", "is_pointer", "address_of", "reachable", "live_words", "memory_ok", "with_field", "_law_damage", "objects_of", "free_words", "pointer_to", "shape_of", "word_of_number", "number_of", "law"], none⟩
noncomputable def gls : List PyData := []
noncomputable def v0 : List Str := ["c", "met"]
noncomputable def b0 : List S := [
  S.ife (E.cmp .eq (E.bin .mod (E.var 0) (E.int 4)) (E.int 0)) [S.ret (E.bin .mul (E.int 2) (E.abs (E.var 0)))] [],
  S.ret (E.bin .add (E.bin .mul (E.int 2) (E.bin .mod (E.bin .fdiv (E.var 0) (E.int 4)) (E.min2 (E.bin .add (E.var 1) (E.int 1)) (E.int 4)))) (E.int 1))]
noncomputable def v1 : List Str := ["root_cells", "node_cells", "met", "roots", "c", "rows", "cells", "row"]
noncomputable def b1 : List S := [
  S.assign 2 (E.int 0),
  S.assignO 3 (E.lst []),
  S.for1 4 (E.var 0) [S.append 3 (E.call 0 [(E.var 4), (E.var 2)]), S.ife (E.cmp .eq (E.idx (E.own 3) (E.neg (E.int 1))) (E.bin .add (E.bin .mul (E.int 2) (E.var 2)) (E.int 1))) [S.assign 2 (E.bin .add (E.var 2) (E.int 1))] []],
  S.assignO 5 (E.lst []),
  S.for1 6 (E.var 1) [S.assignO 7 (E.lst []), S.for1 4 (E.sl (E.var 6) (E.int 1) (E.bin .add (E.int 1) (E.bin .mod (E.idx (E.var 6) (E.int 0)) (E.int 3)))) [S.append 7 (E.call 0 [(E.var 4), (E.var 2)]), S.ife (E.bop true (E.cmp .lt (E.len (E.own 5)) (E.var 2)) (E.cmp .eq (E.idx (E.own 7) (E.neg (E.int 1))) (E.bin .add (E.bin .mul (E.int 2) (E.var 2)) (E.int 1)))) [S.assign 2 (E.bin .add (E.var 2) (E.int 1))] []], S.frz 7, S.append 5 (E.var 7)],
  S.frz 3,
  S.frz 5,
  S.ret (E.tup [(E.var 3), (E.var 5), (E.var 2)])]
noncomputable def v2 : List Str := ["row", "addr"]
noncomputable def b2 : List S := [
  S.ret (E.comp (E.ite (E.cmp .eq (E.bin .mod E.cv (E.int 2)) (E.int 1)) (E.bin .add (E.bin .mul (E.int 2) (E.idx (E.var 1) (E.bin .fdiv E.cv (E.int 2)))) (E.int 1)) E.cv) (E.var 0))]
noncomputable def v3 : List Str := ["size"]
noncomputable def b3 : List S := [
  S.ife (E.cmp .lt (E.var 0) (E.int 1)) [S.raise .value (E.str (Str.ofString "a memory holds at least one word"))] [],
  S.ret (E.bin .add (E.lst [(E.neg (E.var 0))]) (E.bin .mul (E.lst [(E.int 0)]) (E.bin .sub (E.var 0) (E.int 1))))]
noncomputable def v4 : List Str := ["mem", "blocks", "at", "j", "h", "n"]
noncomputable def b4 : List S := [
  S.assignO 1 (E.lst []),
  S.assign 2 (E.int 0),
  S.for1 3 (E.range (E.len (E.var 0))) [S.ife (E.cmp .eq (E.var 3) (E.var 2)) [S.assign 4 (E.idx (E.var 0) (E.var 3)), S.assign 5 (E.ite (E.cmp .ge (E.var 4) (E.int 0)) (E.bin .add (E.var 4) (E.int 1)) (E.neg (E.var 4))), S.ife (E.cmp .gt (E.bin .add (E.var 3) (E.var 5)) (E.len (E.var 0))) [S.ret E.none] [], S.append 1 (E.tup [(E.var 3), (E.var 5), (E.cmp .lt (E.var 4) (E.int 0))]), S.assign 2 (E.bin .add (E.var 3) (E.var 5))] []],
  S.ret (E.own 1)]
noncomputable def v5 : List Str := ["mem", "marked", "new", "run", "b", "a", "n"]
noncomputable def b5 : List S := [
  S.assignO 2 (E.lst []),
  S.assign 3 (E.neg (E.int 1)),
  S.for1 4 (E.call 4 [(E.var 0)]) [S.assign 5 (E.idx (E.var 4) (E.int 0)), S.assign 6 (E.idx (E.var 4) (E.int 1)), S.ife (E.bop true (E.not (E.idx (E.var 4) (E.int 2))) (E.cmp .isin (E.var 5) (E.var 1))) [S.assignO 2 (E.bin .add (E.own 2) (E.sl (E.var 0) (E.var 5) (E.bin .add (E.var 5) (E.var 6)))), S.assign 3 (E.neg (E.int 1))] [S.ife (E.cmp .ge (E.var 3) (E.int 0)) [S.setItem 2 (E.var 3) (E.bin .sub (E.idx (E.own 2) (E.var 3)) (E.var 6)), S.assignO 2 (E.bin .add (E.own 2) (E.bin .mul (E.lst [(E.int 0)]) (E.var 6)))] [S.assign 3 (E.len (E.own 2)), S.assignO 2 (E.bin .add (E.bin .add (E.own 2) (E.lst [(E.neg (E.var 6))])) (E.bin .mul (E.lst [(E.int 0)]) (E.bin .sub (E.var 6) (E.int 1))))]]],
  S.ret (E.own 2)]
noncomputable def v6 : List Str := ["mem", "fields", "blocks", "need", "b", "a", "new", "i"]
noncomputable def b6 : List S := [
  S.assign 2 (E.call 4 [(E.var 0)]),
  S.ife (E.isC true (E.var 2) E.none) [S.raise .value (E.str (Str.ofString "the memory is not tiled by blocks"))] [],
  S.assign 3 (E.bin .add (E.len (E.var 1)) (E.int 1)),
  S.for1 4 (E.var 2) [S.ife (E.bop true (E.idx (E.var 4) (E.int 2)) (E.cmp .ge (E.idx (E.var 4) (E.int 1)) (E.var 3))) [S.assign 5 (E.idx (E.var 4) (E.int 0)), S.assignO 6 (E.lcopy (E.var 0)), S.setItem 6 (E.var 5) (E.len (E.var 1)), S.for1 7 (E.range (E.len (E.var 1))) [S.setItem 6 (E.bin .add (E.bin .add (E.var 5) (E.int 1)) (E.var 7)) (E.idx (E.var 1) (E.var 7))], S.ife (E.cmp .gt (E.idx (E.var 4) (E.int 1)) (E.var 3)) [S.setItem 6 (E.bin .add (E.var 5) (E.var 3)) (E.bin .sub (E.var 3) (E.idx (E.var 4) (E.int 1)))] [], S.frz 6, S.ret (E.tup [(E.var 6), (E.var 5)])] []],
  S.raise .oom (E.bin .add (E.bin .add (E.str (Str.ofString "no free block of ")) (E.text (E.var 3))) (E.str (Str.ofString " words")))]
noncomputable def v7 : List Str := ["n"]
noncomputable def b7 : List S := [
  S.ret (E.slTo (E.bin .add (E.lst [(E.neg (E.var 0))]) (E.bin .mul (E.lst [(E.int 0)]) (E.var 0))) (E.var 0))]
noncomputable def v8 : List Str := ["mem", "a"]
noncomputable def b8 : List S := [
  S.ret (E.sl (E.var 0) (E.bin .add (E.var 1) (E.int 1)) (E.bin .add (E.bin .add (E.var 1) (E.int 1)) (E.idx (E.var 0) (E.var 1))))]
noncomputable def v9 : List Str := ["w"]
noncomputable def b9 : List S := [
  S.ret (E.cmp .eq (E.bin .mod (E.var 0) (E.int 2)) (E.int 1))]
noncomputable def v10 : List Str := ["w"]
noncomputable def b10 : List S := [
  S.ret (E.bin .fdiv (E.var 0) (E.int 2))]
noncomputable def v11 : List Str := ["mem", "roots", "met", "w", "place"]
noncomputable def b11 : List S := [
  S.assignO 2 (E.lst []),
  S.for1 3 (E.var 1) [S.ife (E.bop true (E.call 9 [(E.var 3)]) (E.cmp .notin (E.call 10 [(E.var 3)]) (E.own 2))) [S.append 2 (E.call 10 [(E.var 3)])] []],
  S.assign 4 (E.int 0),
  S.whil (E.cmp .lt (E.var 4) (E.len (E.own 2))) [S.for1 3 (E.call 8 [(E.var 0), (E.idx (E.own 2) (E.var 4))]) [S.ife (E.bop true (E.call 9 [(E.var 3)]) (E.cmp .notin (E.call 10 [(E.var 3)]) (E.own 2))) [S.append 2 (E.call 10 [(E.var 3)])] []], S.assign 4 (E.bin .add (E.var 4) (E.int 1))],
  S.ret (E.own 2)]
noncomputable def v12 : List Str := ["mem", "roots", "total", "a"]
noncomputable def b12 : List S := [
  S.assign 2 (E.int 0),
  S.for1 3 (E.call 11 [(E.var 0), (E.var 1)]) [S.assign 2 (E.bin .add (E.bin .add (E.var 2) (E.idx (E.var 0) (E.var 3))) (E.int 1))],
  S.ret (E.var 2)]
noncomputable def v13 : List Str := ["mem", "roots", "blocks", "objs", "words", "a", "w"]
noncomputable def b13 : List S := [
  S.assign 2 (E.call 4 [(E.var 0)]),
  S.ife (E.isC true (E.var 2) E.none) [S.ret (E.bool false)] [],
  S.assign 3 (E.compIf (E.idx E.cv (E.int 0)) (E.not (E.idx E.cv (E.int 2))) (E.var 2)),
  S.assign 4 (E.lcopy (E.var 1)),
  S.for1 5 (E.var 3) [S.assign 4 (E.bin .add (E.var 4) (E.sl (E.var 0) (E.bin .add (E.var 5) (E.int 1)) (E.bin .add (E.bin .add (E.var 5) (E.int 1)) (E.idx (E.var 0) (E.var 5)))))],
  S.for1 6 (E.var 4) [S.ife (E.cmp .lt (E.var 6) (E.int 0)) [S.ret (E.bool false)] [], S.ife (E.bop true (E.call 9 [(E.var 6)]) (E.cmp .notin (E.call 10 [(E.var 6)]) (E.var 3))) [S.ret (E.bool false)] []],
  S.ret (E.bool true)]
noncomputable def v14 : List Str := ["mem", "a", "i", "w", "new"]
noncomputable def b14 : List S := [
  S.assignO 4 (E.lcopy (E.var 0)),
  S.setItem 4 (E.bin .add (E.bin .add (E.var 1) (E.int 1)) (E.var 2)) (E.var 3),
  S.ret (E.own 4)]
noncomputable def v15 : List Str := ["mem", "blocks", "a", "over", "bad", "refused"]
noncomputable def b15 : List S := [
  S.assign 4 (E.bin .add (E.bin .add (E.slTo (E.var 0) (E.var 2)) (E.lst [(E.bin .add (E.bin .sub (E.bin .sub (E.len (E.var 0)) (E.var 2)) (E.int 1)) (E.var 3))])) (E.slFrom (E.var 0) (E.bin .add (E.var 2) (E.int 1)))),
  S.ife (E.cmp .eq (E.var 3) (E.int 0)) [S.ret (E.cmp .eq (E.call 4 [(E.var 4)]) (E.bin .add (E.compIf E.cv (E.cmp .lt (E.idx E.cv (E.int 0)) (E.var 2)) (E.var 1)) (E.lst [(E.tup [(E.var 2), (E.bin .sub (E.len (E.var 0)) (E.var 2)), (E.bool false)])])))] [],
  S.assign 5 (E.bool false),
  S.tryc [S.drop (E.call 6 [(E.var 4), (E.lst [])])] .value 5 (E.bool true),
  S.ife (E.bop false (E.isC false (E.call 4 [(E.var 4)]) E.none) (E.isC false (E.call 13 [(E.var 4), (E.lst [])]) (E.bool false))) [S.ret (E.bool false)] [],
  S.ret (E.var 5)]
noncomputable def v16 : List Str := ["mem"]
noncomputable def b16 : List S := [
  S.ret (E.compIf (E.idx E.cv (E.int 0)) (E.not (E.idx E.cv (E.int 2))) (E.call 4 [(E.var 0)]))]
noncomputable def v17 : List Str := ["mem", "total", "b"]
noncomputable def b17 : List S := [
  S.assign 1 (E.int 0),
  S.for1 2 (E.call 4 [(E.var 0)]) [S.ife (E.idx (E.var 2) (E.int 2)) [S.assign 1 (E.bin .add (E.var 1) (E.idx (E.var 2) (E.int 1)))] []],
  S.ret (E.var 1)]
noncomputable def v18 : List Str := ["a"]
noncomputable def b18 : List S := [
  S.ret (E.bin .add (E.bin .mul (E.int 2) (E.var 0)) (E.int 1))]
noncomputable def v19 : List Str := ["mem", "roots", "order", "number", "i", "shown_roots", "shown", "a"]
noncomputable def b19 : List S := [
  S.assign 2 (E.call 11 [(E.var 0), (E.var 1)]),
  S.assignO 3 (E.bin .mul (E.lst [(E.neg (E.int 1))]) (E.len (E.var 0))),
  S.for1 4 (E.range (E.len (E.var 2))) [S.setItem 3 (E.idx (E.var 2) (E.var 4)) (E.var 4)],
  S.assign 5 (E.comp (E.ite (E.call 9 [E.cv]) (E.call 18 [(E.idx (E.own 3) (E.call 10 [E.cv]))]) E.cv) (E.var 1)),
  S.assignO 6 (E.lst []),
  S.for1 7 (E.var 2) [S.append 6 (E.comp (E.ite (E.call 9 [E.cv]) (E.call 18 [(E.idx (E.own 3) (E.call 10 [E.cv]))]) E.cv) (E.call 8 [(E.var 0), (E.var 7)]))],
  S.frz 6,
  S.ret (E.tup [(E.var 5), (E.var 6)])]
noncomputable def v20 : List Str := ["k"]
noncomputable def b20 : List S := [
  S.ret (E.bin .mul (E.int 2) (E.var 0))]
noncomputable def v21 : List Str := ["w"]
noncomputable def b21 : List S := [
  S.ret (E.bin .fdiv (E.var 0) (E.int 2))]
noncomputable def v22 : List Str := [("script" : Str), ("number" : Str), ("turn" : Str), ("place" : Str), ("order" : Str), ("sequence" : Str), ("rows" : Str), ("tail" : Str), ("starts" : Str), ("at" : Str), ("s" : Str), ("addr" : Str), ("held" : Str), ("seen" : Str), ("mem" : Str), ("flat" : Str), ("laid" : Str), ("x" : Str), ("gap" : Str), ("keep" : Str), ("wanted" : Str), ("holed" : Str), ("blocks" : Str), ("extra" : Str), ("need" : Str), ("spot" : Str), ("room" : Str), ("want" : Str), ("probe" : Str), ("due" : Str), ("spare" : Str), ("old" : Str), ("k" : Str), ("roots" : Str), ("met" : Str), ("fields" : Str), ("got" : Str), ("i" : Str), ("put" : Str)]
noncomputable def b22 : List S := [
  S.ife (E.cmp .lt (E.len (E.var 0)) (E.int 24)) [S.ret (E.bool true)] [],
  S.assignT [33, 6, 34] (E.call 1 [(E.tup [(E.idx (E.var 0) (E.int 0)), (E.idx (E.var 0) (E.int 1)), (E.idx (E.var 0) (E.int 2))]), (E.tup [(E.tup [(E.idx (E.var 0) (E.int 3)), (E.idx (E.var 0) (E.int 7)), (E.idx (E.var 0) (E.int 8))]), (E.tup [(E.idx (E.var 0) (E.int 4)), (E.idx (E.var 0) (E.int 9)), (E.idx (E.var 0) (E.int 10))]), (E.tup [(E.idx (E.var 0) (E.int 5)), (E.idx (E.var 0) (E.int 11)), (E.idx (E.var 0) (E.int 12))]), (E.tup [(E.idx (E.var 0) (E.int 6)), (E.idx (E.var 0) (E.int 13)), (E.idx (E.var 0) (E.int 14))])])]),
  S.assign 1 (E.bin .mul (E.int 2) (E.abs (E.idx (E.var 0) (E.int 23)))),
  S.assign 2 (E.bin .mod (E.idx (E.var 0) (E.int 15)) (E.int 8)),
  S.assign 3 (E.bin .mod (E.idx (E.var 0) (E.int 16)) (E.int 4)),
  S.assign 4 (E.comp (E.bin .mod (E.bin .add (E.bin .fdiv (E.var 2) (E.int 2)) (E.bin .mul E.cv (E.bin .add (E.int 1) (E.bin .mul (E.bin .mod (E.var 2) (E.int 2)) (E.int 2))))) (E.int 4)) (E.range (E.int 4))),
  S.assign 5 (E.bin .add (E.bin .add (E.slTo (E.var 4) (E.var 3)) (E.lst [(E.int 4)])) (E.slFrom (E.var 4) (E.var 3))),
  S.assign 6 (E.bin .add (E.var 6) (E.lst [(E.bin .mul (E.lst [(E.var 1)]) (E.bin .mod (E.idx (E.var 0) (E.int 17)) (E.int 3)))])),
  S.assign 7 (E.bin .mod (E.idx (E.var 0) (E.int 18)) (E.int 5)),
  S.assignO 8 (E.lst []),
  S.assign 9 (E.int 0),
  S.for1 10 (E.var 5) [S.append 8 (E.tup [(E.var 10), (E.var 9)]), S.assign 9 (E.bin .add (E.bin .add (E.var 9) (E.len (E.idx (E.var 6) (E.var 10)))) (E.int 1))],
  S.assign 11 (E.mkdict (E.own 8)),
  S.assign 12 (E.call 2 [(E.var 33), (E.var 11)]),
  S.assign 13 (E.tup [(E.var 33), (E.slTo (E.var 6) (E.var 34))]),
  S.assign 14 (E.call 3 [(E.bin .add (E.var 9) (E.var 7))]),
  S.assign 15 (E.lst []),
  S.assign 16 (E.lst []),
  S.for1 10 (E.var 5) [S.assign 35 (E.call 2 [(E.idx (E.var 6) (E.var 10)), (E.var 11)]), S.assign 15 (E.bin .add (E.bin .add (E.var 15) (E.lst [(E.len (E.var 35))])) (E.var 35)), S.assign 36 (E.call 6 [(E.var 14), (E.var 35)]), S.ife (E.bop false (E.cmp .ne (E.var 36) (E.tup [(E.bin .add (E.var 15) (E.call 7 [(E.bin .sub (E.bin .add (E.var 9) (E.var 7)) (E.len (E.var 15)))])), (E.idx (E.var 11) (E.var 10))])) (E.isT false (E.idx (E.var 36) (E.int 1)) "int")) [S.ret (E.bool false)] [], S.ife (E.bop false (E.cmp .ne (E.call 8 [(E.idx (E.var 36) (E.int 0)), (E.idx (E.var 11) (E.var 10))]) (E.var 35)) (E.cmp .ne (E.call 5 [(E.idx (E.var 36) (E.int 0)), (E.var 16)]) (E.var 14))) [S.ret (E.bool false)] [], S.assign 14 (E.idx (E.var 36) (E.int 0)), S.assign 16 (E.bin .add (E.var 16) (E.lst [(E.idx (E.var 11) (E.var 10))]))],
  S.assign 17 (E.idx (E.var 11) (E.int 4)),
  S.assign 18 (E.bin .add (E.len (E.idx (E.var 6) (E.int 4))) (E.int 1)),
  S.assign 19 (E.compIf E.cv (E.cmp .ne E.cv (E.var 17)) (E.var 16)),
  S.assign 20 (E.bin .add (E.bin .add (E.bin .add (E.slTo (E.var 15) (E.var 17)) (E.call 7 [(E.var 18)])) (E.slFrom (E.var 15) (E.bin .add (E.var 17) (E.var 18)))) (E.call 7 [(E.var 7)])),
  S.assign 21 (E.call 5 [(E.var 14), (E.var 19)]),
  S.ife (E.bop false (E.cmp .ne (E.var 21) (E.var 20)) (E.bop false (E.cmp .ne (E.var 14) (E.bin .add (E.var 15) (E.call 7 [(E.var 7)]))) (E.cmp .ne (E.call 6 [(E.var 21), (E.idx (E.var 6) (E.int 4))]) (E.tup [(E.var 14), (E.var 17)])))) [S.ret (E.bool false)] [],
  S.assign 22 (E.bin .add (E.comp (E.tup [(E.idx (E.var 11) E.cv), (E.bin .add (E.len (E.idx (E.var 6) E.cv)) (E.int 1)), (E.cmp .eq E.cv (E.int 4))]) (E.var 5)) (E.bin .mul (E.lst [(E.tup [(E.var 9), (E.var 7), (E.bool true)])]) (E.min2 (E.var 7) (E.int 1)))),
  S.ife (E.bop false (E.cmp .ne (E.call 4 [(E.var 21)]) (E.var 22)) (E.gen "any" (E.isT false (E.idx E.cv (E.int 2)) "bool") (E.call 4 [(E.var 21)]))) [S.ret (E.bool false)] [],
  S.ife (E.bop false (E.cmp .ne (E.call 16 [(E.var 21)]) (E.var 19)) (E.bop false (E.cmp .ne (E.call 17 [(E.var 21)]) (E.bin .add (E.var 18) (E.var 7))) (E.isC false (E.call 13 [(E.var 21), (E.var 12)]) (E.bool true)))) [S.ret (E.bool false)] [],
  S.ife (E.bop false (E.cmp .ne (E.call 19 [(E.var 21), (E.var 12)]) (E.var 13)) (E.cmp .ne (E.call 11 [(E.var 21), (E.var 12)]) (E.comp (E.idx (E.var 11) E.cv) (E.range (E.var 34))))) [S.ret (E.bool false)] [],
  S.ife (E.cmp .ne (E.call 12 [(E.var 21), (E.var 12)]) (E.gen "sum" (E.bin .add (E.len E.cv) (E.int 1)) (E.idx (E.var 13) (E.int 1)))) [S.ret (E.bool false)] [],
  S.assign 23 (E.bin .mul (E.lst [(E.var 1)]) (E.bin .mod (E.idx (E.var 0) (E.int 19)) (E.int 5))),
  S.assign 24 (E.bin .add (E.len (E.var 23)) (E.int 1)),
  S.assign 25 (E.var 9),
  S.assign 26 (E.var 7),
  S.ife (E.cmp .ge (E.var 18) (E.var 24)) [S.assign 25 (E.var 17), S.assign 26 (E.var 18)] [],
  S.assign 27 (E.str (Str.ofString "full")),
  S.ife (E.cmp .le (E.var 24) (E.var 26)) [S.assign 27 (E.tup [(E.bin .add (E.bin .add (E.bin .add (E.bin .add (E.slTo (E.var 20) (E.var 25)) (E.lst [(E.bin .sub (E.var 24) (E.int 1))])) (E.var 23)) (E.call 7 [(E.bin .sub (E.var 26) (E.var 24))])) (E.slFrom (E.var 20) (E.bin .add (E.var 25) (E.var 26)))), (E.var 25)])] [],
  S.tryc [S.assign 36 (E.call 6 [(E.var 21), (E.var 23)])] .oom 36 (E.str (Str.ofString "full")),
  S.ife (E.cmp .ne (E.var 36) (E.var 27)) [S.ret (E.bool false)] [],
  S.ife (E.bop true (E.cmp .le (E.var 24) (E.var 26)) (E.bop false (E.cmp .ne (E.call 8 [(E.idx (E.var 36) (E.int 0)), (E.var 25)]) (E.var 23)) (E.bop false (E.cmp .ne (E.call 19 [(E.idx (E.var 36) (E.int 0)), (E.var 12)]) (E.var 13)) (E.cmp .ne (E.call 5 [(E.idx (E.var 36) (E.int 0)), (E.var 19)]) (E.var 20))))) [S.ret (E.bool false)] [],
  S.assign 28 (E.bin .sub (E.bin .mod (E.idx (E.var 0) (E.int 20)) (E.bin .add (E.bin .mul (E.int 2) (E.len (E.var 20))) (E.int 4))) (E.int 2)),
  S.assign 29 (E.bop true (E.cmp .ge (E.var 28) (E.int 0)) (E.bop false (E.cmp .eq (E.bin .mod (E.var 28) (E.int 2)) (E.int 0)) (E.cmp .isin (E.bin .fdiv (E.var 28) (E.int 2)) (E.var 19)))),
  S.ife (E.cmp .ne (E.call 13 [(E.var 21), (E.bin .add (E.var 12) (E.lst [(E.var 28)]))]) (E.var 29)) [S.ret (E.bool false)] [],
  S.assign 30 (E.idx (E.var 11) (E.bin .mod (E.idx (E.var 0) (E.int 21)) (E.int 4))),
  S.assign 31 (E.call 2 [(E.idx (E.var 6) (E.bin .mod (E.idx (E.var 0) (E.int 21)) (E.int 4))), (E.var 11)]),
  S.ife (E.cmp .gt (E.len (E.var 31)) (E.int 0)) [S.assign 37 (E.bin .mod (E.idx (E.var 0) (E.int 22)) (E.len (E.var 31))), S.assign 38 (E.call 14 [(E.var 21), (E.var 30), (E.var 37), (E.var 28)]), S.ife (E.bop false (E.cmp .ne (E.var 38) (E.bin .add (E.bin .add (E.slTo (E.var 20) (E.bin .add (E.bin .add (E.var 30) (E.int 1)) (E.var 37))) (E.lst [(E.var 28)])) (E.slFrom (E.var 20) (E.bin .add (E.bin .add (E.var 30) (E.int 2)) (E.var 37))))) (E.cmp .ne (E.call 13 [(E.var 38), (E.var 12)]) (E.var 29))) [S.ret (E.bool false)] [], S.ife (E.bop false (E.cmp .ne (E.call 8 [(E.var 38), (E.var 30)]) (E.bin .add (E.bin .add (E.slTo (E.var 31) (E.var 37)) (E.lst [(E.var 28)])) (E.slFrom (E.var 31) (E.bin .add (E.var 37) (E.int 1))))) (E.cmp .ne (E.call 14 [(E.var 38), (E.var 30), (E.var 37), (E.idx (E.var 31) (E.var 37))]) (E.var 20))) [S.ret (E.bool false)] []] [],
  S.ife (E.not (E.call 15 [(E.var 21), (E.var 22), (E.var 30), (E.bin .mod (E.idx (E.var 0) (E.int 22)) (E.int 2))])) [S.ret (E.bool false)] [],
  S.assign 32 (E.abs (E.idx (E.var 0) (E.int 20))),
  S.ife (E.bop false (E.cmp .ne (E.call 18 [(E.var 32)]) (E.bin .add (E.bin .mul (E.int 2) (E.var 32)) (E.int 1))) (E.bop false (E.cmp .ne (E.call 20 [(E.var 32)]) (E.bin .mul (E.int 2) (E.var 32))) (E.bop false (E.cmp .ne (E.call 10 [(E.call 18 [(E.var 32)])]) (E.var 32)) (E.cmp .ne (E.call 21 [(E.call 20 [(E.var 32)])]) (E.var 32))))) [S.ret (E.bool false)] [],
  S.ife (E.bop false (E.isC false (E.call 9 [(E.call 18 [(E.var 32)])]) (E.bool true)) (E.isC false (E.call 9 [(E.call 20 [(E.var 32)])]) (E.bool false))) [S.ret (E.bool false)] [],
  S.tryc [S.assign 36 (E.call 3 [(E.bin .sub (E.bin .mod (E.idx (E.var 0) (E.int 23)) (E.int 4)) (E.int 1))])] .value 36 (E.str (Str.ofString "small")),
  S.ife (E.cmp .ne (E.var 36) (E.idx (E.tup [(E.str (Str.ofString "small")), (E.str (Str.ofString "small")), (E.lst [(E.neg (E.int 1))]), (E.lst [(E.neg (E.int 2)), (E.int 0)])]) (E.bin .mod (E.idx (E.var 0) (E.int 23)) (E.int 4)))) [S.ret (E.bool false)] [],
  S.ife (E.bop false (E.cmp .ne (E.var 21) (E.var 20)) (E.cmp .ne (E.var 12) (E.call 2 [(E.var 33), (E.var 11)]))) [S.ret (E.bool false)] [],
  S.ret (E.bool true)]
noncomputable def dfs : List Df := [⟨v0, 2, b0⟩, ⟨v1, 2, b1⟩, ⟨v2, 2, b2⟩, ⟨v3, 1, b3⟩, ⟨v4, 1, b4⟩, ⟨v5, 2, b5⟩, ⟨v6, 2, b6⟩, ⟨v7, 1, b7⟩, ⟨v8, 2, b8⟩, ⟨v9, 1, b9⟩, ⟨v10, 1, b10⟩, ⟨v11, 2, b11⟩, ⟨v12, 2, b12⟩, ⟨v13, 2, b13⟩, ⟨v14, 4, b14⟩, ⟨v15, 4, b15⟩, ⟨v16, 1, b16⟩, ⟨v17, 1, b17⟩, ⟨v18, 1, b18⟩, ⟨v19, 2, b19⟩, ⟨v20, 1, b20⟩, ⟨v21, 1, b21⟩, ⟨v22, 1, b22⟩]
noncomputable def df (k : Nat) : Df := (dfs[k]?).getD ⟨[], 0, []⟩
end Mine.L1

-- W4
namespace Mine
open PySem PySem.Calls PyProof.Rows PySem.W

noncomputable def gnE : Expr → Expr
  | .GeneratorExp e _ _ _ => e
  | _ => dE
noncomputable def gnT : Expr → Expr
  | .GeneratorExp _ (g :: _) _ _ => g.target
  | _ => dE
noncomputable def gnI : Expr → Expr
  | .GeneratorExp _ (g :: _) _ _ => g.iter
  | _ => dE
noncomputable def gnS : Expr → Scope
  | .GeneratorExp _ _ s _ => s
  | e => scOf e
noncomputable def gnX (p : Expr) : Str := nmOf (gnT p)
noncomputable def rbG (T : Tb) (Γ : Sc) (f : Str) (eE eI : E) (p : Expr) : Expr :=
  .Call (.Name f (kid p 0).pos) [.GeneratorExp (rb T ⟨gnS (kid p 1), [], none, gnX (kid p 1)⟩ eE (gnE (kid p 1))) [⟨.Name (gnX (kid p 1)) (gnT (kid p 1)).pos, rb T Γ eI (gnI (kid p 1)), [], 0⟩] (gnS (kid p 1)) (kid p 1).pos] [] p.pos
noncomputable def rbAny (T : Tb) (Γ : Sc) (eL eE eI : E) (p : Stmt) : Stmt := .If (.BoolOp .Or [rb T Γ eL (kid (sk p 0) 0), rbG T Γ "any" eE eI (kid (sk p 0) 1)] (sk p 0).pos) (sb p 0) [] p.pos
noncomputable def rbSum (T : Tb) (Γ : Sc) (eX eE eI : E) (p : Stmt) : Stmt := .If (.Compare (rb T Γ eX (kid (sk p 0) 0)) [.NotEq] [rbG T Γ "sum" eE eI (kid (sk p 0) 1)] (sk p 0).pos) (sb p 0) [] p.pos
noncomputable def gen1 (p : Stmt) : Expr := kid (kid (sk p 0) 1) 1
noncomputable def wfG (T : Tb) (Γ : Sc) (f : Str) (eL eI : E) (p : Stmt) : Bool := wf T Γ eL (kid (sk p 0) 0) && wf T Γ eI (gnI (gen1 p)) && Γ.isBlt f f && genSc (gnS (gen1 p)) (gnX (gen1 p))

section
variable {prog : Program} {w : World} {hb h₁ : Heap} {cO : Addr} {A : Around} {Γ : Sc} {env : Env} {Xc : Addr → Prop} {s₀ : Shared} {ρ : Rho} {o : Nat → Addr} {s s' σ : Shared} {c P : Addr} {ps : Array Value} {T : Tb} {F : FT} {n : Nat}

theorem run_seg' {a b : List S} {ca cb : List Stmt} {d : PyData} (G : GF prog w hb cO T F n) (hA : Room A n) (hchk : wfSs T Γ a ca = true) (S : SS prog w hb A Γ env Xc s₀ No ρ o s) (hev : evSs F (a ++ b) ρ = .ret d) {Q : Flow → Shared → Prop} {E : Value → Shared → Prop}
    (hret : ∀ v s', Nx hb s₀ s' → Rp prog w s'.heap (fun a => ¬ Xc a) v d → Q (.ret v) s') (hnext : ∀ ρ' o' s', evSs F b ρ' = .ret d → SS prog w hb A Γ env Xc s₀ No ρ' o' s' → wpAny (model prog w) A (execs cb env) Q E s') : wpAny (model prog w) A (execs (rbSs T Γ a ca ++ cb) env) Q E s := by
  refine execs_append ?_
  have hm := main_Ss G hA a Γ env Xc s₀ ρ ca hchk
  rw [evSs_append] at hev
  refine hm o s S (fun q => by rw [q] at hev; cases hev) _ _ (fun ρ' o' s' e S' _ => ?_) (fun v s' d' e n1 r1 => ?_) (fun v s' ns fs x y e _ _ => ?_) fun e s' k ρ' o' s₁ ek _ _ _ => ?_
  · rw [e] at hev
    exact hnext ρ' o' s' hev S'
  · rw [e] at hev
    cases hev
    exact hret v s' n1 r1
  · rw [e] at hev; cases hev
  · rw [ek] at hev; cases hev

theorem sum_inv {eX eE eI : E} {r : List S} (h : evSs F (.ife (.cmp .ne eX (.gen "sum" eE eI)) [.ret (.bool false)] [] :: r) ρ = .ret (.bool true)) (hsm : ∀ x, sm ρ eX x = x) :
    ∃ dX xs, ∃ ks : List Int, ev F ρ none eX = .ok dX ∧ ev F ρ none eI = .ok (.list xs) ∧ mapR (fun x => ev F ρ (some x) eE) xs = .ok (ks.map .int) ∧ cmpD .ne dX (.int ks.sum) = .ok (.bool false) ∧ evSs F r ρ = .ret (.bool true) := by
  obtain ⟨h1, h2⟩ := inv_if h
  change ((sm ρ eX (ev F ρ none eX)).bind fun a => (ev F ρ none (.gen "sum" eE eI)).bind fun b => cmpD .ne a b) = _ at h1
  rw [hsm] at h1
  obtain ⟨dX, e1, e2⟩ := bind_eq_ok h1
  obtain ⟨dg, e3, e4⟩ := bind_eq_ok e2
  obtain ⟨xs, ys, e5, e6, e7⟩ := inv_gen e3
  obtain ⟨ks, rfl, rfl⟩ := inv_genSum e6 e7
  exact ⟨dX, xs, ks, e1, e5, e6, e4, h2⟩
end
end Mine
namespace Mine.L1
open PySem PySem.Calls PyProof.Rows PySem.W Mine

noncomputable def tb1 : Tb := ⟨[], tb.fn.take 22, none⟩
noncomputable def eL : E := E.cmp .ne (E.call 4 [(E.var 21)]) (E.var 22)
noncomputable def eE1 : E := E.isT false (E.idx E.cv (E.int 2)) "bool"
noncomputable def eI1 : E := E.call 4 [(E.var 21)]
noncomputable def eX : E := E.call 12 [(E.var 21), (E.var 12)]
noncomputable def eE2 : E := E.bin .add (E.len E.cv) (E.int 1)
noncomputable def eI2 : E := E.idx (E.var 13) (E.int 1)
theorem b22_cut : b22 = b22.take 26 ++ (S.ife (.bop false eL (.gen "any" eE1 eI1)) [S.ret (.bool false)] [] :: ((b22.drop 27).take 2 ++ (S.ife (.cmp .ne eX (.gen "sum" eE2 eI2)) [S.ret (.bool false)] [] :: (b22.drop 30 ++ [])))) := rfl
noncomputable def cut (Γ : Sc) (code : List Stmt) : List Stmt := rbSs tb1 Γ (b22.take 26) (code.take 26) ++ (rbAny tb1 Γ eL eE1 eI1 (code.getD 26 dS) :: (rbSs tb1 Γ ((b22.drop 27).take 2) ((code.drop 27).take 2) ++ (rbSum tb1 Γ eX eE2 eI2 (code.getD 29 dS) :: (rbSs tb1 Γ (b22.drop 30) (code.drop 30) ++ []))))
noncomputable def cutChk (Γ : Sc) (code : List Stmt) : Bool := wfSs tb1 Γ (b22.take 26) (code.take 26) && wfSs tb1 Γ ((b22.drop 27).take 2) ((code.drop 27).take 2) && wfSs tb1 Γ (b22.drop 30) (code.drop 30) && wfG tb1 Γ "any" eL eI1 (code.getD 26 dS) && wfG tb1 Γ "sum" eX eI2 (code.getD 29 dS) &&
  isTChk (gnS (gen1 (code.getD 26 dS))) (gnX (gen1 (code.getD 26 dS))) "bool" && lenChk (gnS (gen1 (code.getD 29 dS))) (gnX (gen1 (code.getD 29 dS))) && !(decide ((((gen1 (code.getD 26 dS)).pos.line : Nat) : Int) = (gen1 (code.getD 29 dS)).pos.line) && decide ((((gen1 (code.getD 26 dS)).pos.col : Nat) : Int) = (gen1 (code.getD 29 dS)).pos.col))

theorem body1 {prog : Program} {w : World} {hb h₁ : Heap} {cO : Addr} {A : Around} {Γ : Sc} {env : Env} {s₀ : Shared} {ρ : Rho} {o : Nat → Addr} {s σ : Shared} {c P : Addr} {F : FT} {n : Nat} {code : List Stmt}
    (G : GF prog w hb cO tb1 F n) (hA : Room A n) (hcut : cut Γ code = code) (hchk : cutChk Γ code = true) (S : SS prog w hb A Γ env No s₀ No ρ o s) (t : TS h₁ hb σ c P #[] env s₀) (hev : evSs F b22 ρ = .ret (.bool true))
    {Q : Value → Shared → Prop} (hQ : ∀ s₀' s' ps', TS h₁ hb σ c P ps' env s₀' → Nx hb s₀' s' → Q (.bool true) s') :
    wpAny (model prog w) A (execs code env) (fun f s' => match f with | .ret v => Q v s' | _ => False) (fun _ _ => False) s := by
  unfold cutChk at hchk
  simp only [Bool.and_eq_true, Bool.not_eq_true'] at hchk
  obtain ⟨⟨⟨⟨⟨⟨⟨c1, c2⟩, c3⟩, c4⟩, c5⟩, c6⟩, c7⟩, c8⟩ := hchk
  simp only [wfG, Bool.and_eq_true] at c4 c5
  obtain ⟨⟨⟨d1, d2⟩, d3⟩, d4⟩ := c4
  obtain ⟨⟨⟨f1, f2⟩, f3⟩, f4⟩ := c5
  have he : execs code env = execs (cut Γ code) env := by rw [hcut]
  rw [he]
  rw [b22_cut] at hev
  unfold cut
  have fin : ∀ {s₀' : Shared} {ps' : Array Value}, TS h₁ hb σ c P ps' env s₀' → ∀ (v : Value) (s' : Shared), Nx hb s₀' s' → Rp prog w s'.heap (fun a => ¬ No a) v (.bool true) → Q v s' := fun t' v s' n1 r => by
    cases r
    exact hQ _ s' _ t' n1
  refine run_seg' G hA c1 S hev (fin t) fun ρ1 o1 s1 hev1 S1 => wpAny_execs_cons ?_
  obtain ⟨h1, hev2⟩ := inv_if hev1
  obtain ⟨h2, h3⟩ := inv_or h1
  obtain ⟨xs, ys, h4, h5, h6⟩ := inv_gen h3
  refine st_any (eI := eI1) G hA S1 t rfl d4 d3 d1 d2 h2 h4 (fun v => set_folded (env := env) (it := rb tb1 Γ eI1 (gnI (gen1 (code.getD 26 dS)))) rb_noSet v) (mapR_at h5).1 (inv_genAny h5 h6) (gelt_idx G S1.gl c6 h5) fun s₀1 s2 c' S2 t2 => ?_
  refine run_seg' G hA c2 S2 hev2 (fin t2) fun ρ3 o3 s3 hev3 S3 => wpAny_execs_cons ?_
  obtain ⟨dX, zs, ks, k1, k2, k3, k4, hev4⟩ := sum_inv hev3 fun _ => rfl
  refine st_sum (eI := eI2) G hA S3 t2 ?_ f4 f3 f1 f2 k1 k4 k2 (fun v => set_folded (env := env) (it := rb tb1 Γ eI2 (gnI (gen1 (code.getD 29 dS)))) rb_noSet v) (mapR_at k3).1 (gelt_len G S3.gl c7 k3) fun s₀2 s4 c'' S4 t4 => ?_
  · show (if _ then _ else _) = _
    rw [if_neg]
    · rfl
    · simpa [rawInt, gen1] using c8
  refine run_seg' G hA c3 S4 hev4 (fin t4) fun ρ5 o5 s5 hev5 S5 => ?_
  cases hev5
end Mine.L1

-- Q1
namespace Mine.L1
open PySem PySem.Calls PyProof.Rows PySem.W
abbrev pw : Program := PySem.Challenge.pw_sx_ycinder_1
noncomputable def vq : Program := { pw with main := { pw.main with body := (List.range 26).filterMap fun i => if i = 0 then none else if i = 19 then none else pw.main.body[i]? } }
abbrev rr : RowW := OpenRow.toRowW PySem.Challenge.rw_sx_ycinder_1.row
theorem cb : bltChk vq (looseW vq []) = true := by kernel_rfl
theorem co : oomChk vq = true := by kernel_rfl
theorem ca : allChk vq tb1 df = true := by kernel_rfl
theorem cr : rebs vq tb1 df = bods vq tb1 := by kernel_rfl
theorem isl : (((recsOf vq).find? fun d => d.name == ("law" : Str)).isSome) = true := by kernel_rfl
noncomputable def dl : DefRec := ((recsOf vq).find? fun d => d.name == ("law" : Str)).get isl
theorem dl_mem : dl ∈ recsOf vq := List.mem_of_find?_eq_some (Option.some_get isl).symm
theorem dl_name : dl.name = "law" := by kernel_rfl
theorem ckD : recChk0 dl v22 1 = true := by kernel_rfl
theorem ckC : cutChk ⟨dl.scope, v22, none, ""⟩ dl.body = true := by kernel_rfl
theorem ckE : cut ⟨dl.scope, v22, none, ""⟩ dl.body = dl.body := by kernel_rfl
end Mine.L1

-- R1
namespace Mine.L1
open PySem PySem.Calls PyProof.Rows PySem.W
theorem left : LeftO pw vq [] (fun s => xlAt vq [] s && recOk (RowW.records rr) s) (Hook.obs Hook.none) (Hook.val Hook.none) 2226 := fun w => by kernel_rfl
theorem said : PySem.Challenge.rw_sx_ycinder_1.wellSaid = true := by
  delta OpenLaw.wellSaid OpenRow.wellSaid OpenRow.partSaid looksOpen
  repeat' with_reducible refine look_both ?_ ?_
  all_goals decide +kernel
theorem isd : (defOf vq "law").isSome = true := by kernel_rfl
noncomputable def dd : DefRec × List (Str × Expr) := (defOf vq "law").get isd
theorem hdef : defOf vq "law" = some (dd.1, dd.2) := (Option.some_get isd).symm
theorem hpd : pw.theDef "law" = some (dd.1.params, dd.1.body, dd.1.scope) := by kernel_rfl
theorem hkd : kwWritten? dd.1.params.kwonlyargs dd.1.params.kw_defaults = some dd.2 := by kernel_rfl
theorem hok : (chainsOk vq && opensWell pw && (frees rr && (PySem.Challenge.rw_sx_ycinder_1.row).within.isEmpty)) = true := by kernel_rfl
theorem hwit : rr.promised := by w_witness2
theorem law_call1 {prog : Program} {w : World} {loose : List Str} {mean : ExcName → Option Value} {mg mb : Str → Option Value} {s₁ : Shared} {cO fa l : Addr} {vs : List Value} {ns : List Int} {m : Nat} (TT : Top vq loose mean mg mb s₁.heap) (hcb : bltChk vq loose = true) (hO : OwnCls "OutOfMemory" cO [.type "Exception", .type "BaseException", .type "object"] "Exception.__new__" mg s₁.heap)
    (hgens : AllBare s₁.gens) (hmg : mg "law" = some (.ref fa)) (hl : s₁.heap.get? l = some { cls := .type "list", data := .seq vs.toArray m }) (hI : IntsAre vs ns) (hlen : ns.length ≤ 63) (hv : evSs (FTn gls (fsUp tb1.ff gls df 22)) b22 (.v (.list (ns.map .int)) :: List.replicate 38 .un) = .ret (.bool true))
    {Q : Value → Shared → Prop} {E : Value → Shared → Prop} (hQ : ∀ s', OldK s₁.heap s'.heap → s'.os = s₁.os → AllBare s'.gens → Q (.bool true) s') : wpAny (model prog w) callerA (call (.ref fa) [.ref l]) Q E s₁ := by
  refine law_call0 (k := 22) TT dl_mem dl_name ckD (by omega) hgens hmg hl hI hlen fun A env c P o1 s1 tP hA S1 t => ?_
  have G : GF prog w (hole s₁.heap P) cO tb1 (FTn gls (fsUp tb1.ff gls df 22)) (fsUp tb1.ff gls df 22).length := gf_all rfl (Top.hole tP TT) ca cr (fun k y d hy hd => by cases k <;> cases hy) hcb (own_hole tP hO) 22 (Nat.le_refl 22)
  rw [fsUp_len] at G
  exact body1 G hA ckE ckC S1 t hv fun s₀' s' ps' t' n1 => hQ s' (t'.B.old.step_keeps (t'.keep n1.kp)) (n1.os.trans t'.os) (n1.gens t'.bare)
theorem join1 (hv : ∀ ns : List Int, evSs (FTn gls (fsUp tb1.ff gls df 22)) b22 (.v (.list (ns.map .int)) :: List.replicate 38 .un) = .ret (.bool true)) : PySem.Challenge.rw_sx_ycinder_1.Holds := by
  refine holds_law said fun k1 => ?_
  refine holds_open (q := vq) (loose := []) (Xt := fun s => xlAt vq [] s && recOk (RowW.records rr) s) (XP := XL vq []) (Yf := Hook.obs Hook.none) (Ya := Hook.val Hook.none) (YP := Hook.says Hook.none) (N := 2226) left (Hook.of Hook.none) (Hook.keeps Hook.none) (fun s e => xl_of s (Bool.and_eq_true_iff.mp e).1) XL.keeps hdef hpd hkd (fun s e => recFacts_of (Bool.and_eq_true_iff.mp e).2) rfl k1 hok ⟨rfl, rfl, rfl, rfl, rfl, by decide +kernel⟩ hwit ?_
  intro w s₀ s₁ mg mb G Y fa o pm cd doc dV kV ho hd hcd hD hmg hg args vals as hpre hlay hrd hwl hlo
  refine Ground.open G ?_
  intro T B D TE TW
  clear hd hcd hD
  rw [defOf_name hdef] at hmg
  wrow_args hpre hlay hrd hwl hlo
  rename_i ns _ _ _ _ _ _ _ l vs _ hL _ hWl _ hI _ hlen _
  obtain ⟨cO, hO⟩ := oom_ok T co
  obtain ⟨m, hget⟩ := well_list hWl hL
  refine law_call1 T cb hO (.of_eq hg) hmg hget hI (by omega) (hv ns) fun s' hk hos hb => ?_
  exact ⟨.inl ⟨.bool true, .bool true, [], rfl, fun _ => rfl, .bool true, by first | rfl | wrow_post, fun _ => ⟨List.nodup_nil, fun a h => by cases h⟩⟩, hk, hos, hb⟩
end Mine.L1

-- N0
namespace Mine
open PySem

section
variable {F : FT} {ρ : Rho} {c : Option PyData}
@[simp] theorem ev_none : ev F ρ c .none = .ok .none := rfl
@[simp] theorem ev_bool {b : Bool} : ev F ρ c (.bool b) = .ok (.bool b) := rfl
@[simp] theorem ev_int {i : Int} : ev F ρ c (.int i) = .ok (.int i) := rfl
@[simp] theorem ev_str {x : Str} : ev F ρ c (.str x) = .ok (.str x) := rfl
@[simp] theorem ev_var {i : Nat} : ev F ρ c (.var i) = getV ρ i := rfl
@[simp] theorem ev_own {i : Nat} : ev F ρ c (.own i) = .stuck := rfl
@[simp] theorem ev_it3 {i : Nat} : ev F ρ c (.it3 i) = getI3 ρ i := rfl
@[simp] theorem ev_cv {d : PyData} : ev F ρ (some d) .cv = .ok d := rfl
@[simp] theorem ev_bin {o : BinO} {l r : E} : ev F ρ c (.bin o l r) = (sm ρ l (ev F ρ c l)).bind fun a => (sm ρ r (ev F ρ c r)).bind fun b => binD o a b := rfl
@[simp] theorem ev_neg {e : E} : ev F ρ c (.neg e) = (ev F ρ c e).bind negD := rfl
@[simp] theorem ev_not {e : E} : ev F ρ c (.not e) = (ev F ρ c e).bind notD := rfl
@[simp] theorem ev_cmp {o : CmpO} {l r : E} : ev F ρ c (.cmp o l r) = (sm ρ l (ev F ρ c l)).bind fun a => (sm ρ r (ev F ρ c r)).bind fun b => cmpD o a b := rfl
@[simp] theorem ev_isC {p : Bool} {e k : E} : ev F ρ c (.isC p e k) = (ev F ρ c e).bind fun a => (ev F ρ c k).bind fun b => isCD p a b := rfl
@[simp] theorem ev_isT {p : Bool} {e : E} {T : String} : ev F ρ c (.isT p e T) = (ev F ρ c e).bind fun a => isTD p a T := rfl
@[simp] theorem ev_bop {p : Bool} {l r : E} : ev F ρ c (.bop p l r) = (ev F ρ c l).bind fun a => match a with
    | .bool b => if b == p then (ev F ρ c r).bind (fun d => match d with | .bool x => .ok (.bool x) | _ => .stuck) else .ok (.bool b)
    | _ => .stuck := rfl
@[simp] theorem ev_ite {t a b : E} : ev F ρ c (.ite t a b) = (ev F ρ c t).bind fun x => match x with
    | .bool true => ev F ρ c a
    | .bool false => ev F ρ c b
    | _ => .stuck := rfl
@[simp] theorem ev_call {f : Nat} {args : List E} : ev F ρ c (.call f args) = (evL F ρ c args).bind fun ds => F.fn f ds := rfl
@[simp] theorem ev_len {e : E} : ev F ρ c (.len e) = (sm ρ e (ev F ρ c e)).bind lenD := rfl
@[simp] theorem ev_abs {e : E} : ev F ρ c (.abs e) = (ev F ρ c e).bind absD := rfl
@[simp] theorem ev_min2 {a b : E} : ev F ρ c (.min2 a b) = (ev F ρ c a).bind fun x => (ev F ρ c b).bind fun y => min2D x y := rfl
@[simp] theorem ev_sum {e : E} : ev F ρ c (.sum e) = (ev F ρ c e).bind sumD := rfl
@[simp] theorem ev_lcopy {e : E} : ev F ρ c (.lcopy e) = (sm ρ e (ev F ρ c e)).bind lcopyD := rfl
@[simp] theorem ev_mkdict {e : E} : ev F ρ c (.mkdict e) = (sm ρ e (ev F ρ c e)).bind mkdictD := rfl
@[simp] theorem ev_litems {e : E} : ev F ρ c (.litems e) = (ev F ρ c e).bind litemsD := rfl
@[simp] theorem ev_sorted {e : E} : ev F ρ c (.sorted e) = (ev F ρ c e).bind sortedD := rfl
@[simp] theorem ev_text {e : E} : ev F ρ c (.text e) = (ev F ρ c e).bind textD := rfl
@[simp] theorem ev_idx {a i : E} : ev F ρ c (.idx a i) = (sm ρ a (ev F ρ c a)).bind fun x => (ev F ρ c i).bind fun k => idxD x k := rfl
@[simp] theorem ev_sl {a lo hi : E} : ev F ρ c (.sl a lo hi) = (sm ρ a (ev F ρ c a)).bind fun x => (ev F ρ c lo).bind fun i => (ev F ρ c hi).bind fun j => slD x i j := rfl
@[simp] theorem ev_slTo {a hi : E} : ev F ρ c (.slTo a hi) = (sm ρ a (ev F ρ c a)).bind fun x => (ev F ρ c hi).bind fun j => slToD x j := rfl
@[simp] theorem ev_slFrom {a lo : E} : ev F ρ c (.slFrom a lo) = (sm ρ a (ev F ρ c a)).bind fun x => (ev F ρ c lo).bind fun i => slFromD x i := rfl
@[simp] theorem ev_tup {es : List E} : ev F ρ c (.tup es) = (evL F ρ c es).bind fun ds => .ok (.tuple ds) := rfl
@[simp] theorem ev_lst {es : List E} : ev F ρ c (.lst es) = (evL F ρ c es).bind fun ds => .ok (.list ds) := rfl
@[simp] theorem ev_dict0 : ev F ρ c .dict0 = .ok (.dict []) := rfl
@[simp] theorem evL_nil : evL F ρ c [] = .ok [] := rfl
@[simp] theorem evL_cons {e : E} {r : List E} : evL F ρ c (e :: r) = (ev F ρ c e).bind fun d => (evL F ρ c r).bind fun ds => .ok (d :: ds) := rfl
@[simp] theorem evI_range {e : E} : evI F ρ c (.range e) = (ev F ρ c e).bind rangeD := rfl
@[simp] theorem evI_values {e : E} : evI F ρ c (.values e) = (ev F ρ c e).bind valuesD := rfl
@[simp] theorem evI_var {i : Nat} : evI F ρ c (.var i) = (getV ρ i).bind itemsD := rfl
@[simp] theorem evI_call {f : Nat} {as : List E} : evI F ρ c (.call f as) = (ev F ρ c (.call f as)).bind itemsD := rfl
@[simp] theorem evI_bin {o : BinO} {l r : E} : evI F ρ c (.bin o l r) = (ev F ρ c (.bin o l r)).bind itemsD := rfl
@[simp] theorem evI_idx {a i : E} : evI F ρ c (.idx a i) = (ev F ρ c (.idx a i)).bind itemsD := rfl
@[simp] theorem sm_own {i : Nat} {r : R PyData} : sm ρ (.own i) r = getOwn ρ i := rfl
@[simp] theorem sm_var {i : Nat} {r : R PyData} : sm ρ (.var i) r = r := rfl
@[simp] theorem sm_int {i : Int} {r : R PyData} : sm ρ (.int i) r = r := rfl
@[simp] theorem sm_str {i : Str} {r : R PyData} : sm ρ (.str i) r = r := rfl
@[simp] theorem sm_cv {r : R PyData} : sm ρ .cv r = r := rfl
@[simp] theorem sm_it3 {i : Nat} {r : R PyData} : sm ρ (.it3 i) r = r := rfl
@[simp] theorem sm_gl {i : Nat} {r : R PyData} : sm ρ (.gl i) r = r := rfl
@[simp] theorem sm_bin {o : BinO} {a b : E} {r : R PyData} : sm ρ (.bin o a b) r = r := rfl
@[simp] theorem sm_neg {a : E} {r : R PyData} : sm ρ (.neg a) r = r := rfl
@[simp] theorem sm_len {a : E} {r : R PyData} : sm ρ (.len a) r = r := rfl
@[simp] theorem sm_idx {a b : E} {r : R PyData} : sm ρ (.idx a b) r = r := rfl
@[simp] theorem sm_sl {a b d : E} {r : R PyData} : sm ρ (.sl a b d) r = r := rfl
@[simp] theorem sm_slTo {a b : E} {r : R PyData} : sm ρ (.slTo a b) r = r := rfl
@[simp] theorem sm_slFrom {a b : E} {r : R PyData} : sm ρ (.slFrom a b) r = r := rfl
@[simp] theorem sm_lst {a : List E} {r : R PyData} : sm ρ (.lst a) r = r := rfl
@[simp] theorem sm_tup {a : List E} {r : R PyData} : sm ρ (.tup a) r = r := rfl
@[simp] theorem sm_call {f : Nat} {a : List E} {r : R PyData} : sm ρ (.call f a) r = r := rfl
@[simp] theorem sm_comp {a b : E} {r : R PyData} : sm ρ (.comp a b) r = r := rfl
@[simp] theorem sm_compIf {a b d : E} {r : R PyData} : sm ρ (.compIf a b d) r = r := rfl
@[simp] theorem sm_litems {a : E} {r : R PyData} : sm ρ (.litems a) r = r := rfl
@[simp] theorem sm_lcopy {a : E} {r : R PyData} : sm ρ (.lcopy a) r = r := rfl
@[simp] theorem sm_text {a : E} {r : R PyData} : sm ρ (.text a) r = r := rfl
@[simp] theorem sm_bool {b : Bool} {r : R PyData} : sm ρ (.bool b) r = r := rfl
@[simp] theorem sm_none {r : R PyData} : sm ρ .none r = r := rfl
@[simp] theorem sm_dict0 {r : R PyData} : sm ρ .dict0 r = r := rfl
@[simp] theorem sm_ite {a b d : E} {r : R PyData} : sm ρ (.ite a b d) r = r := rfl
@[simp] theorem sm_mkdict {a : E} {r : R PyData} : sm ρ (.mkdict a) r = r := rfl
@[simp] theorem sm_abs {a : E} {r : R PyData} : sm ρ (.abs a) r = r := rfl
@[simp] theorem sm_cmp {o : CmpO} {a b : E} {r : R PyData} : sm ρ (.cmp o a b) r = r := rfl
@[simp] theorem sm_not {a : E} {r : R PyData} : sm ρ (.not a) r = r := rfl
@[simp] theorem sm_isC {p : Bool} {a b : E} {r : R PyData} : sm ρ (.isC p a b) r = r := rfl
@[simp] theorem sm_isT {p : Bool} {a : E} {T : String} {r : R PyData} : sm ρ (.isT p a T) r = r := rfl
@[simp] theorem sm_bop {p : Bool} {a b : E} {r : R PyData} : sm ρ (.bop p a b) r = r := rfl
@[simp] theorem sm_min2 {a b : E} {r : R PyData} : sm ρ (.min2 a b) r = r := rfl
@[simp] theorem sm_sorted {a : E} {r : R PyData} : sm ρ (.sorted a) r = r := rfl
@[simp] theorem sm_dcomp {a b d : E} {r : R PyData} : sm ρ (.dcomp a b d) r = r := rfl
@[simp] theorem sm_gen {f : String} {a b : E} {r : R PyData} : sm ρ (.gen f a b) r = r := rfl
@[simp] theorem sm_sum {a : E} {r : R PyData} : sm ρ (.sum a) r = r := rfl

@[simp] theorem evSs_nil : evSs F [] ρ = .next ρ := rfl
@[simp] theorem evSs_cons {s : S} {r : List S} : evSs F (s :: r) ρ = (match evS F s ρ with
    | .next ρ' => evSs F r ρ'
    | o => o) := rfl
@[simp] theorem evS_assign {i : Nat} {e : E} : evS F (.assign i e) ρ = (ev F ρ .none e).out ρ fun d => .next (ρ.set i (.v d)) := rfl
@[simp] theorem evS_assignO_lst {i : Nat} {es : List E} : evS F (.assignO i (.lst es)) ρ = (ev F ρ .none (.lst es)).out ρ (fun d => match d with | .list ds => .next (ρ.set i (.own ds)) | _ => .stuck) := rfl
@[simp] theorem evS_assignO_add {i : Nat} {a b : E} : evS F (.assignO i (.bin .add a b)) ρ = (ev F ρ .none (.bin .add a b)).out ρ (fun d => match d with | .list ds => .next (ρ.set i (.own ds)) | _ => .stuck) := rfl
@[simp] theorem evS_assignO_mul {i : Nat} {a b : E} : evS F (.assignO i (.bin .mul a b)) ρ = (ev F ρ .none (.bin .mul a b)).out ρ (fun d => match d with | .list ds => .next (ρ.set i (.own ds)) | _ => .stuck) := rfl
@[simp] theorem evS_assignO_lcopy {i : Nat} {a : E} : evS F (.assignO i (.lcopy a)) ρ = (ev F ρ .none (.lcopy a)).out ρ (fun d => match d with | .list ds => .next (ρ.set i (.own ds)) | _ => .stuck) := rfl
@[simp] theorem evS_assignO_sl {i : Nat} {a b d : E} : evS F (.assignO i (.sl a b d)) ρ = (ev F ρ .none (.sl a b d)).out ρ (fun d => match d with | .list ds => .next (ρ.set i (.own ds)) | _ => .stuck) := rfl
@[simp] theorem evS_assignO_slTo {i : Nat} {a b : E} : evS F (.assignO i (.slTo a b)) ρ = (ev F ρ .none (.slTo a b)).out ρ (fun d => match d with | .list ds => .next (ρ.set i (.own ds)) | _ => .stuck) := rfl
@[simp] theorem evS_assignO_slFrom {i : Nat} {a b : E} : evS F (.assignO i (.slFrom a b)) ρ = (ev F ρ .none (.slFrom a b)).out ρ (fun d => match d with | .list ds => .next (ρ.set i (.own ds)) | _ => .stuck) := rfl
@[simp] theorem evS_assignO_comp {i : Nat} {a b : E} : evS F (.assignO i (.comp a b)) ρ = (ev F ρ .none (.comp a b)).out ρ (fun d => match d with | .list ds => .next (ρ.set i (.own ds)) | _ => .stuck) := rfl
@[simp] theorem evS_assignO_compIf {i : Nat} {a b d : E} : evS F (.assignO i (.compIf a b d)) ρ = (ev F ρ .none (.compIf a b d)).out ρ (fun d => match d with | .list ds => .next (ρ.set i (.own ds)) | _ => .stuck) := rfl
@[simp] theorem evS_assignT {is : List Nat} {e : E} : evS F (.assignT is e) ρ = (ev F ρ .none e).out ρ fun d => match d with
    | .tuple ds => (match setVs is ds ρ with | some ρ' => .next ρ' | Option.none => .stuck)
    | _ => .stuck := rfl
@[simp] theorem evS_setItem {x : Nat} {i e : E} : evS F (.setItem x i e) ρ = (ev F ρ .none e).out ρ fun d => match ρ[x]? with
    | some (.own ds) => (ev F ρ .none i).out ρ fun k => (match setListD ds k d with | some ds' => .next (ρ.set x (.own ds')) | Option.none => .stuck)
    | _ => .stuck := rfl
@[simp] theorem evS_append {x : Nat} {e : E} : evS F (.append x e) ρ = match ρ[x]? with
    | some (.own _) => (ev F ρ .none e).out ρ fun d => (match ρ[x]? with
      | some (.own ds) => if ds.length < 1048576 then .next (ρ.set x (.own (ds ++ [d]))) else .stuck
      | _ => .stuck)
    | _ => .stuck := rfl
@[simp] theorem evS_ife {c' : E} {a b : List S} : evS F (.ife c' a b) ρ = (ev F ρ .none c').out ρ fun x => match x with
    | .bool true => evSs F a ρ
    | .bool false => evSs F b ρ
    | _ => .stuck := rfl
@[simp] theorem evS_for1 {x : Nat} {src : E} {body : List S} : evS F (.for1 x src body) ρ = (evI F ρ .none src).out ρ fun xs => forL (fun d ρ => evSs F body (ρ.set x (.v d))) xs ρ := rfl
@[simp] theorem evS_forT {is : List Nat} {src : E} {body : List S} : evS F (.forT is src body) ρ = (evI F ρ .none src).out ρ fun xs => forL (fun d ρ => match d with
    | .tuple ds => (match setVs is ds ρ with | some ρ' => evSs F body ρ' | Option.none => .stuck)
    | _ => .stuck) xs ρ := rfl
@[simp] theorem evS_whil {c' : E} {body : List S} : evS F (.whil c' body) ρ = whl (fun ρ => ev F ρ .none c') (fun ρ => evSs F body ρ) wFuel ρ := rfl
@[simp] theorem evS_ret {e : E} : evS F (.ret e) ρ = (sm ρ e (ev F ρ .none e)).out ρ fun d => .ret d := rfl
@[simp] theorem evS_raise {k : Exk} {e : E} : evS F (.raise k e) ρ = (ev F ρ .none e).out ρ fun d => match d with
    | .str _ => .exc k ρ
    | _ => .stuck := rfl
@[simp] theorem evS_tryc {body : List S} {k : Exk} {x : Nat} {c' : E} : evS F (.tryc body k x c') ρ = match evSs F body ρ with
    | .exc k' ρ' => if exkOk k' k then (ev F ρ' .none c').out ρ' (fun d => .next (setV ρ' x d)) else .stuck
    | o => o := rfl
@[simp] theorem evS_frz {x : Nat} : evS F (.frz x) ρ = match ρ[x]? with
    | some (.own ds) => .next (ρ.set x (.v (.list ds)))
    | _ => .stuck := rfl
@[simp] theorem evS_fwd {st nw fo to f : Nat} {args : List E} : evS F (.fwd st nw fo to f args) ρ = (evL F ρ .none args).out ρ fun ds => (F.fn f ds).out ρ fun d => match d with
    | .tuple [.list ns, .list fs, .int t, .int w] => .next ((((ρ.set st (.i3 w)).set nw (.own ns)).set fo (.own fs)).set to (.v (.int t)))
    | _ => .stuck := rfl
@[simp] theorem evS_retF {nw fo : Nat} {a b : E} : evS F (.retF nw fo a b) ρ = match ρ[nw]?, ρ[fo]? with
    | some (.own ns), some (.own fs) => (ev F ρ .none a).out ρ fun x => (ev F ρ .none b).out ρ fun y => .retF ns fs x y
    | _, _ => .stuck := rfl
end
theorem fnR_of {F : FT} {n : Nat} {pis : List Nat} {b : List S} {ds : List PyData} {ρ : Rho} (h : setVs pis ds (List.replicate n .un) = some ρ) : fnR F n pis b ds = evSs F b ρ := by
  unfold fnR
  rw [h]
theorem for_of {F : FT} {ρ : Rho} {x : Nat} {src : E} {b : List S} {xs : List PyData} {t : PyData → Rho → Out} (h : evI F ρ none src = .ok xs) (ht : ∀ d ρ, t d ρ = evSs F b (ρ.set x (.v d))) : evS F (.for1 x src b) ρ = forL t xs ρ := by
  rw [evS_for1, h]
  have : t = fun d ρ => evSs F b (ρ.set x (.v d)) := by funext d ρ; exact ht d ρ
  rw [this]
  rfl
theorem evSs_seq {F : FT} {ρ : Rho} {s : S} {r : List S} : evSs F (s :: r) ρ = seqOut (evSs F r) (evS F s ρ) := by
  rw [evSs_cons]
  cases evS F s ρ <;> rfl
@[simp] theorem seqOut_next {f : Rho → Out} {ρ : Rho} : seqOut f (.next ρ) = f ρ := rfl
@[simp] theorem seqOut_ret {f : Rho → Out} {d : PyData} : seqOut f (.ret d) = .ret d := rfl
@[simp] theorem seqOut_exc {f : Rho → Out} {k : Exk} {ρ : Rho} : seqOut f (.exc k ρ) = .exc k ρ := rfl
theorem step {F : FT} {ρ ρ' : Rho} {s : S} {r : List S} (h : evS F s ρ = .next ρ') : evSs F (s :: r) ρ = evSs F r ρ' := by rw [evSs_cons, h]
theorem stepR {F : FT} {ρ : Rho} {d : PyData} {s : S} {r : List S} (h : evS F s ρ = .ret d) : evSs F (s :: r) ρ = .ret d := by rw [evSs_cons, h]
theorem stepX {F : FT} {ρ ρ' : Rho} {k : Exk} {s : S} {r : List S} (h : evS F s ρ = .exc k ρ') : evSs F (s :: r) ρ = .exc k ρ' := by rw [evSs_cons, h]
theorem stepT {F : FT} {ρ : Rho} {c : E} {a b : List S} (h : ev F ρ none c = .ok (.bool true)) : evS F (.ife c a b) ρ = evSs F a ρ := by rw [evS_ife, h]; rfl
theorem stepF {F : FT} {ρ : Rho} {c : E} {a b : List S} (h : ev F ρ none c = .ok (.bool false)) : evS F (.ife c a b) ρ = evSs F b ρ := by rw [evS_ife, h]; rfl
@[simp] theorem R.out_ok {α : Type} {ρ : Rho} {a : α} {f : α → Out} : R.out ρ (.ok a) f = f a := rfl
@[simp] theorem R.out_exc {α : Type} {ρ : Rho} {k : Exk} {f : α → Out} : R.out ρ (.exc k) f = .exc k ρ := rfl
@[simp] theorem R.bind_ok {α β : Type} {a : α} {f : α → R β} : R.bind (.ok a) f = f a := rfl
@[simp] theorem R.bind_exc {α β : Type} {k : Exk} {f : α → R β} : R.bind (.exc k) f = .exc k := rfl
@[simp] theorem getV_zero {d : PyData} {ρ : Rho} : getV (.v d :: ρ) 0 = .ok d := rfl
@[simp] theorem getV_succ {va : VA} {ρ : Rho} {i : Nat} : getV (va :: ρ) (i + 1) = getV ρ i := rfl
@[simp] theorem getOwn_zero {d : List PyData} {ρ : Rho} : getOwn (.own d :: ρ) 0 = .ok (.list d) := rfl
@[simp] theorem getOwn_succ {va : VA} {ρ : Rho} {i : Nat} : getOwn (va :: ρ) (i + 1) = getOwn ρ i := rfl
@[simp] theorem getI3_zero {d : Int} {ρ : Rho} : getI3 (.i3 d :: ρ) 0 = .ok (.int d) := rfl
@[simp] theorem getI3_succ {va : VA} {ρ : Rho} {i : Nat} : getI3 (va :: ρ) (i + 1) = getI3 ρ i := rfl
@[simp] theorem bodyR_ret {d : PyData} : bodyR (.ret d) = .ok d := rfl
@[simp] theorem bodyR_exc {k : Exk} {ρ : Rho} : bodyR (.exc k ρ) = .exc k := rfl
@[simp] theorem bodyF_retF {ns fs : List PyData} {a b : PyData} : bodyF (.retF ns fs a b) = .ok (.tuple [.list ns, .list fs, a, b]) := rfl
@[simp] theorem setVs_nil {ρ : Rho} : setVs [] [] ρ = some ρ := rfl
@[simp] theorem setVs_cons {i : Nat} {is : List Nat} {d : PyData} {ds : List PyData} {ρ : Rho} : setVs (i :: is) (d :: ds) ρ = setVs is ds (ρ.set i (.v d)) := rfl

@[simp] theorem bin_add {a b : Int} : binD .add (.int a) (.int b) = .ok (.int (a + b)) := rfl
@[simp] theorem bin_sub {a b : Int} : binD .sub (.int a) (.int b) = .ok (.int (a - b)) := rfl
theorem bin_mul {a b : Int} (h : a.natAbs < 4611686018427387904) : binD .mul (.int a) (.int b) = .ok (.int (a * b)) := if_pos h
@[simp] theorem bin_mul2 {b : Int} : binD .mul (.int 2) (.int b) = .ok (.int (2 * b)) := rfl
theorem bin_addL {a b : List PyData} (h : a.length + b.length ≤ 1048576) : binD .add (.list a) (.list b) = .ok (.list (a ++ b)) := if_pos (c := a.length + b.length ≤ LIM) (by rw [LIM_eq]; exact h)
theorem bin_mulL {x : PyData} {n : Int} (h : -1048576 ≤ n ∧ n ≤ 1048576) : binD .mul (.list [x]) (.int n) = .ok (.list (List.replicate n.toNat x)) := if_pos h
theorem bin_mod {a b : Int} (h : 0 < b ∧ b < 1073741824) : binD .mod (.int a) (.int b) = .ok (.int (a % b)) := if_pos h
@[simp] theorem bin_mod2 {a : Int} : binD .mod (.int a) (.int 2) = .ok (.int (a % 2)) := rfl
@[simp] theorem bin_mod4 {a : Int} : binD .mod (.int a) (.int 4) = .ok (.int (a % 4)) := rfl
@[simp] theorem bin_mod12 {a : Int} : binD .mod (.int a) (.int 12) = .ok (.int (a % 12)) := rfl
@[simp] theorem bin_fdiv2 {a : Int} : binD .fdiv (.int a) (.int 2) = .ok (.int (a / 2)) := rfl
theorem cmp_eq_sh {a b : PyData} (ha : SeqAt.shaped a = true) (hb : SeqAt.shaped b = true) : cmpD .eq a b = .ok (.bool (PyData.eqv a b)) :=
  (if_pos (by rw [ha, hb]; rfl)).trans (congrArg (fun x => R.ok (PyData.bool x)) (beq_true _))
theorem cmp_ne_sh {a b : PyData} (ha : SeqAt.shaped a = true) (hb : SeqAt.shaped b = true) : cmpD .ne a b = .ok (.bool (!PyData.eqv a b)) :=
  (if_pos (by rw [ha, hb]; rfl)).trans (congrArg (fun x => R.ok (PyData.bool x)) (beq_false _))
theorem cmp_isin_sh {d : PyData} {xs : List PyData} (ha : SeqAt.shaped (.list xs) = true) (hb : SeqAt.shaped d = true) : cmpD .isin d (.list xs) = .ok (.bool (xs.any fun y => PyData.eqv y d)) :=
  (if_pos (by rw [ha, hb]; rfl)).trans (congrArg (fun x => R.ok (PyData.bool x)) (beq_true _))
theorem cmp_notin_sh {d : PyData} {xs : List PyData} (ha : SeqAt.shaped (.list xs) = true) (hb : SeqAt.shaped d = true) : cmpD .notin d (.list xs) = .ok (.bool (!xs.any fun y => PyData.eqv y d)) :=
  (if_pos (by rw [ha, hb]; rfl)).trans (congrArg (fun x => R.ok (PyData.bool x)) (beq_false _))
theorem beq_dec (a b : Int) : (a == b) = decide (a = b) := by by_cases h : a = b <;> simp [h]
@[simp] theorem cmp_eqi {a b : Int} : cmpD .eq (.int a) (.int b) = .ok (.bool (decide (a = b))) :=
  (cmp_eq_sh (a := .int a) (b := .int b) rfl rfl).trans (congrArg (fun x => R.ok (PyData.bool x)) (beq_dec a b))
@[simp] theorem cmp_nei {a b : Int} : cmpD .ne (.int a) (.int b) = .ok (.bool (decide (a ≠ b))) :=
  (cmp_ne_sh (a := .int a) (b := .int b) rfl rfl).trans (congrArg (fun x => R.ok (PyData.bool x)) ((congrArg not (beq_dec a b)).trans (decide_not).symm))
@[simp] theorem cmp_lt {a b : Int} : cmpD .lt (.int a) (.int b) = .ok (.bool (decide (a < b))) := rfl
@[simp] theorem cmp_le {a b : Int} : cmpD .le (.int a) (.int b) = .ok (.bool (decide (a ≤ b))) := rfl
@[simp] theorem cmp_gt {a b : Int} : cmpD .gt (.int a) (.int b) = .ok (.bool (decide (b < a))) := rfl
@[simp] theorem cmp_ge {a b : Int} : cmpD .ge (.int a) (.int b) = .ok (.bool (decide (b ≤ a))) := rfl
@[simp] theorem negD_int {a : Int} : negD (.int a) = .ok (.int (-a)) := rfl
@[simp] theorem notD_bool {a : Bool} : notD (.bool a) = .ok (.bool (!a)) := rfl
@[simp] theorem lenD_list {a : List PyData} : lenD (.list a) = .ok (.int a.length) := rfl
@[simp] theorem lcopyD_list {a : List PyData} : lcopyD (.list a) = .ok (.list a) := rfl
@[simp] theorem itemsD_list {a : List PyData} : itemsD (.list a) = .ok a := rfl
@[simp] theorem rangeD_nat {n : Nat} (h : n ≤ 1048576) : rangeD (.int n) = .ok ((List.range n).map fun i => .int (i : Nat)) := by
  have h2 : -1048576 ≤ (n : Int) ∧ (n : Int) ≤ 1048576 := by omega
  simp [rangeD, h2]
end Mine

-- G0
namespace Mine
open PySem

noncomputable def LI (m : List Int) : PyData := .list (m.map .int)
@[simp] theorem lenD_LI {m : List Int} : lenD (LI m) = .ok (.int m.length) := by simp [LI, lenD]
theorem nth_nat {xs : List PyData} {n : Nat} : nth xs (n : Int) = xs[n]? := by simp [nth]
theorem nth_zero {xs : List PyData} : nth xs 0 = xs[0]? := nth_nat (n := 0)
theorem nth_one {xs : List PyData} : nth xs 1 = xs[1]? := nth_nat (n := 1)
theorem nth_two {xs : List PyData} : nth xs 2 = xs[2]? := nth_nat (n := 2)
theorem idx_LI {m : List Int} {n : Nat} {x : Int} (h : m[n]? = some x) : idxD (LI m) (.int (n : Int)) = .ok (.int x) := by
  simp [LI, idxD, nth_nat, h]
theorem forL_append {turn : PyData → Rho → Out} : ∀ {xs ys : List PyData} {ρ : Rho}, forL turn (xs ++ ys) ρ = (match forL turn xs ρ with | .next ρ' => forL turn ys ρ' | o => o)
  | [], ys, ρ => rfl
  | x :: xs, ys, ρ => by
    simp only [List.cons_append, forL]
    cases h : turn x ρ with
    | next ρ' => exact forL_append
    | ret d => rfl
    | _ => rfl

noncomputable def rng (a n : Nat) : List PyData := (List.range' a n).map fun i => .int (i : Nat)
theorem rng_zero {a : Nat} : rng a 0 = [] := rfl
theorem rng_succ {a n : Nat} : rng a (n + 1) = .int (a : Nat) :: rng (a + 1) n := by simp [rng, List.range'_succ]
theorem rng_add {a m n : Nat} : rng a (m + n) = rng a m ++ rng (a + m) n := by
  simp only [rng, ← List.map_append]
  rw [List.range'_append_1]
theorem range_rng {n : Nat} : ((List.range n).map fun i => PyData.int (i : Nat)) = rng 0 n := by
  rw [rng, List.range_eq_range']

noncomputable def free : Nat → List Int
  | 0 => []
  | n + 1 => -((n : Int) + 1) :: List.replicate n 0
@[simp] theorem free_len : ∀ f, (free f).length = f
  | 0 => rfl
  | n + 1 => by simp [free]
theorem set_ints {m : List Int} {i : Nat} {x : Int} (h : i < m.length) : setListD (m.map .int) (.int (i : Int)) (.int x) = some ((m.set i x).map .int) := by
  have h2 : 0 ≤ (i : Int) ∧ (i : Int) < ((m.map PyData.int).length : Nat) := by simp; omega
  unfold setListD
  simp only
  rw [if_pos h2]
  simp [List.map_set]
theorem idx_ints {m : List Int} {n : Nat} {x : Int} (h : m[n]? = some x) : idxD (.list (m.map .int)) (.int (n : Int)) = .ok (.int x) := idx_LI h
theorem text_small : ∀ n : Nat, n ≤ 4 → ∃ s, textD (.int ((n : Int) + 1)) = .ok (.str s) ∧ s.length ≤ 10
  | 0, _ => ⟨_, rfl, by decide⟩
  | 1, _ => ⟨_, rfl, by decide⟩
  | 2, _ => ⟨_, rfl, by decide⟩
  | 3, _ => ⟨_, rfl, by decide⟩
  | 4, _ => ⟨_, rfl, by decide⟩
  | n + 5, h => by omega
theorem bin_addS {a b : Str} (h : a.length + b.length ≤ 1048576) : binD .add (.str a) (.str b) = .ok (.str (a ++ b)) := if_pos (c := a.length + b.length ≤ LIM) (by rw [LIM_eq]; exact h)
theorem str_len {a b : Str} : (a ++ b).length = a.length + b.length := by
  show (Str.append a b).cps.size = _
  simp [Str.append, Str.length]
theorem raise_msg {F : FT} {ρ : Rho} {k : Exk} {s1 s2 : Str} {i n : Nat} (h : getV ρ i = .ok (.int ((n : Int) + 1))) (hn : n ≤ 4) (h1 : s1.length ≤ 100) (h2 : s2.length ≤ 100) : evS F (.raise k (.bin .add (.bin .add (.str s1) (.text (.var i))) (.str s2))) ρ = .exc k ρ := by
  obtain ⟨st, e1, e2⟩ := text_small n hn
  have hx : ev F ρ none (.bin .add (.bin .add (.str s1) (.text (.var i))) (.str s2)) = .ok (.str ((s1 ++ st) ++ s2)) := by
    rw [ev_bin, sm_bin, sm_str, ev_bin, sm_str, sm_text, ev_str, ev_text, ev_var, h, R.bind_ok, R.bind_ok, e1, R.bind_ok, bin_addS (by omega), R.bind_ok, ev_str, R.bind_ok, bin_addS (by rw [str_len]; omega)]
  rw [evS_raise, hx, R.out_ok]
theorem lcopy_LI {m : List Int} : lcopyD (LI m) = .ok (.list (m.map .int)) := rfl
theorem depthAll_le : ∀ {xs : List PyData} {n : Nat}, (∀ x ∈ xs, PyData.depth x ≤ n) → PyData.depthAll xs ≤ n
  | [], n, _ => by simp [PyData.depthAll]
  | x :: xs, n, h => by
    rw [PyData.depthAll]
    exact Nat.max_le.mpr ⟨h x (.head _), depthAll_le fun y hy => h y (.tail _ hy)⟩
theorem canAll : ∀ {xs : List PyData}, (∀ x ∈ xs, PyData.canLay0 x = true) → PyData.canLayAll0 xs = true
  | [], _ => by simp [PyData.canLayAll0]
  | x :: xs, h => by
    rw [PyData.canLayAll0, h x (.head _), canAll fun y hy => h y (.tail _ hy)]; rfl
structure Fg (n : Nat) (d : PyData) : Prop where
  c : d.canLay0 = true
  d : d.depth ≤ n
theorem Fg.int {n : Nat} {i : Int} : Fg n (.int i) := ⟨by simp [PyData.canLay0], by simp [PyData.depth]⟩
theorem Fg.str {n : Nat} {s : Str} (h : PyData.strOk s = true) : Fg n (.str s) := ⟨by simpa [PyData.canLay0] using h, by simp [PyData.depth]⟩
theorem Fg.list {n : Nat} {xs : List PyData} (h : ∀ x ∈ xs, Fg n x) : Fg (n + 1) (.list xs) := ⟨by
  rw [PyData.canLay0]; exact canAll fun x hx => (h x hx).c, by
  rw [PyData.depth]; exact Nat.succ_le_succ (depthAll_le fun x hx => (h x hx).d)⟩
theorem Fg.tup {n : Nat} {xs : List PyData} (h : ∀ x ∈ xs, Fg n x) : Fg (n + 1) (.tuple xs) := ⟨by
  rw [PyData.canLay0]; exact canAll fun x hx => (h x hx).c, by
  rw [PyData.depth]; exact Nat.succ_le_succ (depthAll_le fun x hx => (h x hx).d)⟩
theorem Fg.LI {n : Nat} {m : List Int} : Fg (n + 1) (LI m) := Fg.list fun x hx => by
  obtain ⟨i, _, rfl⟩ := List.mem_map.mp hx
  exact Fg.int
theorem Fg.up {n m : Nat} {d : PyData} (h : Fg n d) (hn : n ≤ m) : Fg m d := ⟨h.c, Nat.le_trans h.d hn⟩
theorem Fg.sh {n : Nat} {d : PyData} (h : Fg n d) (hn : n ≤ 64) : SeqAt.shaped d = true := by
  unfold SeqAt.shaped
  rw [h.c, Bool.true_and, decide_eq_true_eq]
  exact Nat.le_trans h.d hn
mutual
theorem eqv_refl : ∀ d : PyData, d.canLay0 = true → PyData.eqv d d = true
  | .none, _ => by simp [PyData.eqv]
  | .bool _, _ => by simp [PyData.eqv]
  | .int _, _ => by simp [PyData.eqv]
  | .str x, _ => by simp [PyData.eqv]
  | .list xs, h => by
    rw [PyData.eqv]
    exact eqvAll_refl xs (by simpa [PyData.canLay0] using h)
  | .tuple xs, h => by
    rw [PyData.eqv]
    exact eqvAll_refl xs (by simpa [PyData.canLay0] using h)
  | .dict _, h => by simp [PyData.canLay0] at h
theorem eqvAll_refl : ∀ xs : List PyData, PyData.canLayAll0 xs = true → PyData.eqvAll xs xs = true
  | [], _ => by simp [PyData.eqvAll]
  | x :: xs, h => by
    have h' : x.canLay0 = true ∧ PyData.canLayAll0 xs = true := by simpa [PyData.canLayAll0] using h
    rw [PyData.eqvAll, eqv_refl x h'.1, eqvAll_refl xs h'.2]; rfl
end
theorem cmp_ne_self {n : Nat} {d : PyData} (h : Fg n d) (hn : n ≤ 64) : cmpD .ne d d = .ok (.bool false) := by
  rw [cmp_ne_sh (h.sh hn) (h.sh hn), eqv_refl d h.c]
  rfl
abbrev V := Int × Int
noncomputable def VT (v : V) : PyData := .tuple [.int v.1, .int v.2]
noncomputable def RW (r : List V) : PyData := .list (r.map VT)
noncomputable def dk (l : List (Int × PyData)) : List (PyData × PyData) := l.map fun p => (PyData.int p.1, p.2)
noncomputable def lset : List (Int × PyData) → Int → PyData → List (Int × PyData)
  | [], k, d => [(k, d)]
  | (j, e) :: r, k, d => if j = k then (j, d) :: r else (j, e) :: lset r k d
theorem dset_dk : ∀ {l : List (Int × PyData)} {k : Int} {d : PyData}, dset (dk l) k d = dk (lset l k d)
  | [], _, _ => rfl
  | (j, e) :: r, k, d => by
    show dset ((.int j, e) :: dk r) k d = _
    rw [dset, lset]
    by_cases h : j = k
    · rw [if_pos h, if_pos h]; rfl
    · rw [if_neg h, if_neg h, dset_dk]; rfl
theorem dget_dk : ∀ {l : List (Int × PyData)} {k : Int}, dget (dk l) k = l.lookup k
  | [], _ => rfl
  | (j, e) :: r, k => by
    show dget ((.int j, e) :: dk r) k = _
    rw [dget, List.lookup_cons]
    by_cases h : j = k
    · subst h; simp
    · have h' : (k == j) = false := by simpa using fun z : k = j => h z.symm
      rw [if_neg h, dget_dk, h']
theorem lset_new : ∀ {a : List (Int × PyData)} {k : Int} {d : PyData}, k ∉ a.map (·.1) → lset a k d = a ++ [(k, d)]
  | [], _, _, _ => rfl
  | (j, e) :: r, k, d, h => by
    simp only [List.map_cons, List.mem_cons, not_or] at h
    rw [lset, if_neg (fun z => h.1 z.symm), lset_new h.2]; rfl
theorem mapR_map {α : Type} {f : PyData → R PyData} {g h : α → PyData} : ∀ {xs : List α}, (∀ x ∈ xs, f (g x) = .ok (h x)) → mapR f (xs.map g) = .ok (xs.map h)
  | [], _ => rfl
  | x :: xs, hx => by
    rw [List.map_cons, mapR, hx x (.head _)]
    show (match mapR f (xs.map g) with | .ok ys => R.ok (h x :: ys) | _ => .stuck) = _
    rw [mapR_map fun y hy => hx y (.tail _ hy)]; rfl
theorem sumL_li : ∀ {xs : List Int}, sumL (xs.map .int) = some xs.sum
  | [] => rfl
  | x :: xs => by rw [List.map_cons, sumL, sumL_li]; simp
theorem ev_compS {F : FT} {ρ : Rho} {c : Option PyData} {elt src : E} {xs ys : List PyData} (h1 : evI F ρ c src = .ok xs) (h2 : mapR (fun x => ev F ρ (some x) elt) xs = .ok ys) : ev F ρ c (.comp elt src) = .ok (.list ys) := by
  rw [ev_comp, h1, R.bind_ok, h2]; rfl
@[simp] theorem lenD_RW {r : List V} : lenD (RW r) = .ok (.int r.length) := by simp [RW]
theorem Fg.VT {n : Nat} {v : V} : Fg (n + 1) (VT v) := Fg.tup fun x hx => by
  simp only [List.mem_cons, List.not_mem_nil, or_false] at hx
  rcases hx with rfl | rfl <;> exact Fg.int
theorem Fg.RW {n : Nat} {r : List V} : Fg (n + 2) (RW r) := Fg.list fun x hx => by
  obtain ⟨v, _, rfl⟩ := List.mem_map.mp hx
  exact Fg.VT
theorem any_eqv {k : Int} : ∀ {C : List Int}, ((C.map PyData.int).any fun y => PyData.eqv y (.int k)) = decide (k ∈ C)
  | [] => by simp
  | c :: C => by
    rw [List.map_cons, List.any_cons, any_eqv, PyData.eqv]
    by_cases h : c = k
    · subst h; simp
    · have h' : ¬ k = c := fun z => h z.symm
      simp [h, h']
theorem cmp_notin {k : Int} {C : List Int} : cmpD .notin (.int k) (LI C) = .ok (.bool (decide (k ∉ C))) := by
  have h1 := (Fg.LI (n := 0) (m := C)).sh (by omega)
  have h2 := (Fg.int (n := 0) (i := k)).sh (by omega)
  exact (cmp_notin_sh (xs := C.map PyData.int) h1 h2).trans (congrArg (fun x => R.ok (PyData.bool x)) ((congrArg not any_eqv).trans decide_not.symm))
end Mine

-- G1
namespace Mine
open PySem

abbrev RT := Int × List Int
noncomputable def nOf (h : Int) : Int := if 0 ≤ h then h + 1 else -h
noncomputable def Tk (t : RT) : Prop := nOf t.1 = (t.2.length : Int) + 1
noncomputable def tm (R : List RT) : List Int := R.flatMap fun t => t.1 :: t.2
noncomputable def tsz (R : List RT) : Nat := (R.map fun t => t.2.length + 1).sum
noncomputable def tO (r : List Int) : RT := ((r.length : Int), r)
noncomputable def tF (n : Nat) : RT := (-((n : Int) + 1), List.replicate n 0)
theorem Tk.o {r : List Int} : Tk (tO r) := by
  unfold Tk nOf tO
  rw [if_pos (by simp)]
theorem Tk.f {n : Nat} : Tk (tF n) := by
  unfold Tk nOf tF
  rw [if_neg (by simp <;> omega)]; simp
@[simp] theorem tm_nil : tm [] = [] := rfl
@[simp] theorem tm_cons {t : RT} {R : List RT} : tm (t :: R) = t.1 :: (t.2 ++ tm R) := by simp [tm]
@[simp] theorem tm_append {a b : List RT} : tm (a ++ b) = tm a ++ tm b := by simp [tm]
@[simp] theorem tsz_nil : tsz [] = 0 := rfl
@[simp] theorem tsz_cons {t : RT} {R : List RT} : tsz (t :: R) = t.2.length + 1 + tsz R := by simp [tsz]
@[simp] theorem tsz_append {a b : List RT} : tsz (a ++ b) = tsz a + tsz b := by simp [tsz]
@[simp] theorem tm_len : ∀ {R : List RT}, (tm R).length = tsz R
  | [] => rfl
  | t :: R => by simp [tm_len]; omega
noncomputable def bD (a : Nat) (t : RT) : PyData := .tuple [.int (a : Nat), .int ((t.2.length : Int) + 1), .bool (decide (t.1 < 0))]
noncomputable def blkT (a : Nat) : List RT → List PyData
  | [] => []
  | t :: R => bD a t :: blkT (a + (t.2.length + 1)) R
@[simp] theorem blkT_nil {a : Nat} : blkT a [] = [] := rfl
@[simp] theorem blkT_cons {a : Nat} {t : RT} {R : List RT} : blkT a (t :: R) = bD a t :: blkT (a + (t.2.length + 1)) R := rfl
theorem blkT_append : ∀ {R Q : List RT} {a : Nat}, blkT a (R ++ Q) = blkT a R ++ blkT (a + tsz R) Q
  | [], Q, a => by simp
  | t :: R, Q, a => by
    rw [List.cons_append, blkT_cons, blkT_cons, blkT_append, tsz_cons, List.cons_append, Nat.add_assoc]
theorem blkT_len : ∀ {R : List RT} {a : Nat}, (blkT a R).length = R.length
  | [], _ => rfl
  | t :: R, a => by simp [blkT_len]
theorem len_tsz : ∀ {R : List RT}, R.length ≤ tsz R
  | [] => by simp
  | t :: R => by have := len_tsz (R := R); simp; omega

noncomputable def gBlkL : List S := [S.ife (E.cmp .eq (E.var 3) (E.var 2)) [S.assign 4 (E.idx (E.var 0) (E.var 3)), S.assign 5 (E.ite (E.cmp .ge (E.var 4) (E.int 0)) (E.bin .add (E.var 4) (E.int 1)) (E.neg (E.var 4))), S.ife (E.cmp .gt (E.bin .add (E.var 3) (E.var 5)) (E.len (E.var 0))) [S.ret E.none] [], S.append 1 (E.tup [(E.var 3), (E.var 5), (E.cmp .lt (E.var 4) (E.int 0))]), S.assign 2 (E.bin .add (E.var 3) (E.var 5))] []]
noncomputable def gBlk : List S := [S.assignO 1 (E.lst []), S.assign 2 (E.int 0), S.for1 3 (E.range (E.len (E.var 0))) gBlkL, S.ret (E.own 1)]
section
variable {F : FT}
noncomputable def TB (F : FT) (d : PyData) (ρ : Rho) : Out := evSs F gBlkL (ρ.set 3 (.v d))
theorem skipB {mem : List Int} {bl : List PyData} {at' : Nat} {vh vn : VA} : ∀ {m j : Nat} {vj : VA}, (at' < j ∨ j + m ≤ at') → ∃ vj', forL (TB F) (rng j m) [.v (LI mem), .own bl, .v (.int at'), vj, vh, vn] = .next [.v (LI mem), .own bl, .v (.int at'), vj', vh, vn]
  | 0, j, vj, _ => ⟨vj, rfl⟩
  | m + 1, j, vj, h => by
    obtain ⟨vj', e⟩ := skipB (mem := mem) (bl := bl) (at' := at') (vh := vh) (vn := vn) (m := m) (j := j + 1) (vj := .v (.int j)) (by omega)
    refine ⟨vj', ?_⟩
    rw [rng_succ, forL]
    have hne : ¬ ((j : Int) = (at' : Int)) := by omega
    have e1 : TB F (.int (j : Nat)) [.v (LI mem), .own bl, .v (.int at'), vj, vh, vn] = .next [.v (LI mem), .own bl, .v (.int at'), .v (.int j), vh, vn] := by
      simp [TB, gBlkL, hne]
    rw [e1]
    exact e
theorem hitB {mem : List Int} {bl : List PyData} {a : Nat} {h n : Int} {vj vh vn : VA} (hg : mem[a]? = some h) (hn : n = nOf h) (hle : (a : Int) + n ≤ mem.length) (hb : bl.length < 1048576) :
    TB F (.int (a : Nat)) [.v (LI mem), .own bl, .v (.int a), vj, vh, vn] = .next [.v (LI mem), .own (bl ++ [.tuple [.int a, .int n, .bool (decide (h < 0))]]), .v (.int ((a : Int) + n)), .v (.int a), .v (.int h), .v (.int n)] := by
  have hgt : ¬ ((mem.length : Int) < (a : Int) + n) := by omega
  unfold nOf at hn
  by_cases q : 0 ≤ h
  · rw [if_pos q] at hn
    subst hn
    simp [TB, gBlkL, idx_LI hg, q, hgt, hb]
  · rw [if_neg q] at hn
    subst hn
    simp [TB, gBlkL, idx_LI hg, q, hgt, hb]
theorem badB {mem : List Int} {bl : List PyData} {a : Nat} {h : Int} {vj vh vn : VA} (hg : mem[a]? = some h) (hgt : (mem.length : Int) < (a : Int) + nOf h) :
    TB F (.int (a : Nat)) [.v (LI mem), .own bl, .v (.int a), vj, vh, vn] = .ret .none := by
  unfold nOf at hgt
  by_cases q : 0 ≤ h
  · rw [if_pos q] at hgt
    simp [TB, gBlkL, idx_LI hg, q, hgt]
  · rw [if_neg q] at hgt
    simp [TB, gBlkL, idx_LI hg, q, hgt]
theorem loopB {mem : List Int} (hlim : mem.length ≤ 1000) : ∀ {R : List RT} {p q : List Int} {bl : List PyData} {vj vh vn : VA}, mem = p ++ (tm R ++ q) → (∀ t ∈ R, Tk t) → bl.length ≤ p.length →
    ∃ (vj' vh' vn' : VA), forL (TB F) (rng p.length (tsz R)) [.v (LI mem), .own bl, .v (.int p.length), vj, vh, vn] = .next [.v (LI mem), .own (bl ++ blkT p.length R), .v (.int ((p.length + tsz R : Nat) : Int)), vj', vh', vn']
  | [], p, q, bl, vj, vh, vn, hm, ht, hb => ⟨vj, vh, vn, by simp [rng_zero, forL]⟩
  | t :: R, p, q, bl, vj, vh, vn, hm, ht, hb => by
    have hok := ht t (.head _)
    unfold Tk at hok
    have hml : mem.length = p.length + (t.2.length + 1 + tsz R + q.length) := by rw [hm]; simp; omega
    have hget : mem[p.length]? = some t.1 := by rw [hm]; simp
    have e1 := hitB (F := F) (bl := bl) (n := (t.2.length : Int) + 1) (vj := vj) (vh := vh) (vn := vn) hget hok.symm (by omega) (by omega)
    obtain ⟨vj', e2⟩ := skipB (F := F) (mem := mem) (bl := bl ++ [bD p.length t]) (at' := p.length + (t.2.length + 1)) (vh := .v (.int t.1)) (vn := .v (.int ((t.2.length : Int) + 1))) (m := t.2.length) (j := p.length + 1) (vj := .v (.int p.length)) (by omega)
    have hm2 : mem = (p ++ t.1 :: t.2) ++ (tm R ++ q) := by rw [hm]; simp
    have hp2 : (p ++ t.1 :: t.2).length = p.length + (t.2.length + 1) := by simp
    obtain ⟨vj2, vh2, vn2, e5⟩ := loopB hlim (R := R) (p := p ++ t.1 :: t.2) (q := q) (bl := bl ++ [bD p.length t]) (vj := vj') (vh := .v (.int t.1)) (vn := .v (.int ((t.2.length : Int) + 1))) hm2 (fun u hu => ht u (.tail _ hu)) (by simp; omega)
    refine ⟨vj2, vh2, vn2, ?_⟩
    rw [tsz_cons, show t.2.length + 1 + tsz R = (t.2.length + tsz R) + 1 by omega, rng_succ, forL, e1]
    have e3 : ((p.length + (t.2.length + 1) : Nat) : Int) = (p.length : Int) + ((t.2.length : Int) + 1) := by omega
    rw [e3] at e2
    simp only
    rw [rng_add, forL_append]
    change (match forL (TB F) (rng (p.length + 1) t.2.length) [.v (LI mem), .own (bl ++ [bD p.length t]), .v (.int ((p.length : Int) + ((t.2.length : Int) + 1))), .v (.int p.length), .v (.int t.1), .v (.int ((t.2.length : Int) + 1))] with | .next ρ' => forL (TB F) (rng (p.length + 1 + t.2.length) (tsz R)) ρ' | o => o) = _
    rw [e2]
    simp only
    rw [hp2, e3] at e5
    rw [show p.length + 1 + t.2.length = p.length + (t.2.length + 1) by omega, e5]
    rw [List.append_assoc, List.singleton_append, blkT_cons]
    congr 6
    omega
theorem g_blocks {R : List RT} (ht : ∀ t ∈ R, Tk t) (hl : tsz R ≤ 1000) : bodyR (fnR F 6 [0] gBlk [LI (tm R)]) = .ok (.list (blkT 0 R)) := by
  obtain ⟨vj, vh, vn, e⟩ := loopB (F := F) (mem := tm R) (by simpa using hl) (R := R) (p := []) (q := []) (bl := []) (vj := .un) (vh := .un) (vn := .un) (by simp) ht (by simp)
  have hr : rangeD (.int ((tm R).length : Nat)) = .ok (rng 0 (tsz R)) := by rw [tm_len, rangeD_nat (by omega), range_rng]
  rw [fnR_of (ρ := [.v (LI (tm R)), .un, .un, .un, .un, .un]) rfl]
  refine (congrArg bodyR (a₂ := .ret (.list (blkT 0 R))) ?_).trans rfl
  unfold gBlk
  simp only [List.nil_append, List.length_nil, Nat.zero_add] at e
  generalize tm R = mem at *
  generalize hb : gBlkL = gb at *
  refine (step (by simp; rfl)).trans ?_
  refine (step (by simp; rfl)).trans ?_
  refine (step ((for_of (t := TB F) (xs := rng 0 (tsz R)) (by simp [hr]) fun _ _ => by rw [← hb]; rfl).trans e)).trans ?_
  exact stepR (by simp)
theorem g_blocks_bad {R : List RT} {h : Int} {c : List Int} (ht : ∀ t ∈ R, Tk t) (hl : tsz R + (c.length + 1) ≤ 1000) (hgt : (c.length : Int) + 1 < nOf h) : bodyR (fnR F 6 [0] gBlk [LI (tm R ++ h :: c)]) = .ok .none := by
  have hlen : (tm R ++ h :: c).length = tsz R + (c.length + 1) := by simp
  obtain ⟨vj, vh, vn, e⟩ := loopB (F := F) (mem := tm R ++ h :: c) (by omega) (R := R) (p := []) (q := h :: c) (bl := []) (vj := .un) (vh := .un) (vn := .un) (by simp) ht (by simp)
  have hr : rangeD (.int ((tm R ++ h :: c).length : Nat)) = .ok (rng 0 (tsz R + (c.length + 1))) := by rw [hlen, rangeD_nat (by omega), range_rng]
  have hg : (tm R ++ h :: c)[tsz R]? = some h := by
    rw [← tm_len, List.getElem?_append_right (Nat.le_refl _)]; simp
  have e2 := badB (F := F) (bl := blkT 0 R) (vj := vj) (vh := vh) (vn := vn) hg (by rw [hlen]; omega)
  rw [fnR_of (ρ := [.v (LI (tm R ++ h :: c)), .un, .un, .un, .un, .un]) rfl]
  refine (congrArg bodyR (a₂ := .ret .none) ?_).trans rfl
  unfold gBlk
  simp only [List.nil_append, List.length_nil, Nat.zero_add] at e
  have e3 : forL (TB F) (rng 0 (tsz R + (c.length + 1))) [.v (LI (tm R ++ h :: c)), .own [], .v (.int 0), .un, .un, .un] = .ret .none := by
    rw [rng_add, forL_append]
    change (match forL (TB F) (rng 0 (tsz R)) [.v (LI (tm R ++ h :: c)), .own [], .v (.int ((0 : Nat) : Int)), .un, .un, .un] with | .next ρ' => forL (TB F) (rng (0 + tsz R) (c.length + 1)) ρ' | o => o) = _
    rw [e, Nat.zero_add]
    simp only
    rw [rng_succ, forL, e2]
  generalize tm R ++ h :: c = mem at *
  generalize hb : gBlkL = gb at *
  refine (step (by simp; rfl)).trans ?_
  refine (step (by simp; rfl)).trans ?_
  refine stepR ((for_of (t := TB F) (xs := rng 0 (tsz R + (c.length + 1))) (by simp [hr]) fun _ _ => by rw [← hb]; rfl).trans e3)
end
end Mine

-- G2
namespace Mine
open PySem

noncomputable def gAlI : List S := [S.setItem 6 (E.bin .add (E.bin .add (E.var 5) (E.int 1)) (E.var 7)) (E.idx (E.var 1) (E.var 7))]
noncomputable def gAlL : List S := [S.ife (E.bop true (E.idx (E.var 4) (E.int 2)) (E.cmp .ge (E.idx (E.var 4) (E.int 1)) (E.var 3))) [S.assign 5 (E.idx (E.var 4) (E.int 0)), S.assignO 6 (E.lcopy (E.var 0)), S.setItem 6 (E.var 5) (E.len (E.var 1)), S.for1 7 (E.range (E.len (E.var 1))) gAlI, S.ife (E.cmp .gt (E.idx (E.var 4) (E.int 1)) (E.var 3)) [S.setItem 6 (E.bin .add (E.var 5) (E.var 3)) (E.bin .sub (E.var 3) (E.idx (E.var 4) (E.int 1)))] [], S.frz 6, S.ret (E.tup [(E.var 6), (E.var 5)])] []]
noncomputable def gAl (iB : Nat) (s0 s1 s2 : Str) : List S := [S.assign 2 (E.call iB [(E.var 0)]), S.ife (E.isC true (E.var 2) E.none) [S.raise .value (E.str s0)] [], S.assign 3 (E.bin .add (E.len (E.var 1)) (E.int 1)), S.for1 4 (E.var 2) gAlL,
    S.raise .oom (E.bin .add (E.bin .add (E.str s1) (E.text (E.var 3))) (E.str s2))]
section
variable {F : FT}
noncomputable def TA (F : FT) (d : PyData) (ρ : Rho) : Out := evSs F gAlL (ρ.set 4 (.v d))
noncomputable def TAi (F : FT) (d : PyData) (ρ : Rho) : Out := evSs F gAlI (ρ.set 7 (.v d))
theorem writeA {fs p q : List Int} {x0 x2 x3 x4 : VA} {a : Nat} (hp : p.length = a + 1) (hq : fs.length ≤ q.length) : ∀ {m k : Nat} {vi : VA}, k + m = fs.length →
    ∃ vi', forL (TAi F) (rng k m) [x0, .v (LI fs), x2, x3, x4, .v (.int a), .own ((p ++ (fs.take k ++ q.drop k)).map .int), vi] = .next [x0, .v (LI fs), x2, x3, x4, .v (.int a), .own ((p ++ (fs ++ q.drop fs.length)).map .int), vi']
  | 0, k, vi, h => by
    have hk : k = fs.length := by omega
    subst hk
    exact ⟨vi, by simp [rng_zero, forL]⟩
  | m + 1, k, vi, h => by
    obtain ⟨vi', e⟩ := writeA hp hq (x0 := x0) (x2 := x2) (x3 := x3) (x4 := x4) (m := m) (k := k + 1) (vi := .v (.int k)) (by omega)
    refine ⟨vi', ?_⟩
    have hk : k < fs.length := by omega
    have hg : fs[k]? = some fs[k] := List.getElem?_eq_getElem hk
    have hset : (p ++ (fs.take k ++ q.drop k)).set (a + 1 + k) fs[k] = p ++ (fs.take (k + 1) ++ q.drop (k + 1)) := by
      rw [List.set_append_right _ _ (by omega), hp, show a + 1 + k - (a + 1) = k by omega, List.set_append_right _ _ (by simp <;> omega)]
      have hl : (fs.take k).length = k := by simp <;> omega
      rw [hl, Nat.sub_self, List.drop_eq_getElem_cons (by omega), List.set_cons_zero, ← List.take_append_getElem hk, List.append_assoc, List.singleton_append]
    have hidx : ((a : Int) + 1 + (k : Int)) = ((a + 1 + k : Nat) : Int) := by omega
    have e1 : TAi F (.int (k : Nat)) [x0, .v (LI fs), x2, x3, x4, .v (.int a), .own ((p ++ (fs.take k ++ q.drop k)).map .int), vi] = .next [x0, .v (LI fs), x2, x3, x4, .v (.int a), .own ((p ++ (fs.take (k + 1) ++ q.drop (k + 1))).map .int), .v (.int k)] := by
      have hs := set_ints (m := p ++ (fs.take k ++ q.drop k)) (i := a + 1 + k) (x := fs[k]) (by simp <;> omega)
      rw [hset] at hs
      unfold TAi
      simp only [gAlI, List.set_cons_succ, List.set_cons_zero, evSs_cons, evS_setItem, ev_idx, sm_var, ev_var, getV_zero, getV_succ, R.bind_ok, idx_LI hg, R.out_ok, List.getElem?_cons_succ, List.getElem?_cons_zero, ev_bin, sm_bin, sm_int, ev_int, bin_add, hidx, hs, evSs_nil]
    rw [rng_succ, forL, e1]
    exact e
noncomputable def noFit (k : Nat) (t : RT) : Prop := ¬ (t.1 < 0 ∧ k ≤ t.2.length)
theorem skipA {x0 x1 x2 x5 x6 x7 : VA} {k : Nat} {more : List PyData} : ∀ {R : List RT} {a : Nat} {x4 : VA}, (∀ t ∈ R, noFit k t) → ∃ x4', forL (TA F) (blkT a R ++ more) [x0, x1, x2, .v (.int ((k : Int) + 1)), x4, x5, x6, x7] = forL (TA F) more [x0, x1, x2, .v (.int ((k : Int) + 1)), x4', x5, x6, x7]
  | [], a, x4, _ => ⟨x4, by simp⟩
  | t :: R, a, x4, h => by
    obtain ⟨x4', e⟩ := skipA (x0 := x0) (x1 := x1) (x2 := x2) (x5 := x5) (x6 := x6) (x7 := x7) (k := k) (more := more) (R := R) (a := a + (t.2.length + 1)) (x4 := .v (bD a t)) fun u hu => h u (.tail _ hu)
    refine ⟨x4', ?_⟩
    rw [blkT_cons, List.cons_append, forL]
    have e1 : TA F (bD a t) [x0, x1, x2, .v (.int ((k : Int) + 1)), x4, x5, x6, x7] = .next [x0, x1, x2, .v (.int ((k : Int) + 1)), .v (bD a t), x5, x6, x7] := by
      have hn := h t (.head _)
      unfold noFit at hn
      unfold bD
      by_cases q : t.1 < 0
      · have q2 : ¬ ((k : Int) ≤ (t.2.length : Int)) := fun z => hn ⟨q, by omega⟩
        simp [TA, gAlL, idxD, nth_two, nth_one, q, q2]
      · simp [TA, gAlL, idxD, nth_two, q]
    rw [e1]
    exact e
theorem runA {M0 M1 M2 M3 fs : List Int} {a : Nat} {f : Int} {x2 x4 x5 x6 x7 vi' : VA} (hge : (fs.length : Int) + 1 ≤ f) (hfs : fs.length ≤ 1000) (s0 : setListD (M0.map .int) (.int a) (.int fs.length) = some (M1.map .int))
    (ew : forL (TAi F) (rng 0 fs.length) [.v (LI M0), .v (LI fs), x2, .v (.int ((fs.length : Int) + 1)), .v (.tuple [.int a, .int f, .bool true]), .v (.int a), .own (M1.map .int), x7] = .next [.v (LI M0), .v (LI fs), x2, .v (.int ((fs.length : Int) + 1)), .v (.tuple [.int a, .int f, .bool true]), .v (.int a), .own (M2.map .int), vi'])
    (s1 : (fs.length : Int) + 1 < f → setListD (M2.map .int) (.int ((a : Int) + ((fs.length : Int) + 1))) (.int ((fs.length : Int) + 1 - f)) = some (M3.map .int)) (s2 : ¬ (fs.length : Int) + 1 < f → M3 = M2) :
    TA F (.tuple [.int a, .int f, .bool true]) [.v (LI M0), .v (LI fs), x2, .v (.int ((fs.length : Int) + 1)), x4, x5, x6, x7] = .ret (.tuple [LI M3, .int a]) := by
  have hr : rangeD (.int (fs.length : Nat)) = .ok (rng 0 fs.length) := by rw [rangeD_nat (by omega), range_rng]
  have ew' : forL (fun d ρ => evSs F gAlI (ρ.set 7 (.v d))) (rng 0 fs.length) [.v (LI M0), .v (LI fs), x2, .v (.int ((fs.length : Int) + 1)), .v (.tuple [.int a, .int f, .bool true]), .v (.int a), .own (M1.map .int), x7] = _ := ew
  unfold TA gAlL
  refine stepR ((stepT (by simp [idxD, nth_two, nth_one, hge])).trans ?_)
  refine (step (by simp [idxD, nth_zero]; rfl)).trans ?_
  refine (step (by simp [lcopy_LI]; rfl)).trans ?_
  refine (step (by simp [s0]; rfl)).trans ?_
  refine (step (by simp [hr, ew']; rfl)).trans ?_
  by_cases hgt : (fs.length : Int) + 1 < f
  · refine (step ((stepT (by simp [idxD, nth_one, hgt])).trans ((step (by simp [idxD, nth_one, s1 hgt]; rfl)).trans rfl))).trans ?_
    refine (step (by simp; rfl)).trans ?_
    exact stepR (by simp [LI])
  · refine (step ((stepF (by simp [idxD, nth_one, hgt])).trans rfl)).trans ?_
    refine (step (by simp; rfl)).trans ?_
    rw [s2 hgt]
    exact stepR (by simp [LI])
noncomputable def frem (n k : Nat) : List RT := if k < n then [tF (n - k - 1)] else []
theorem hitA {pre post : List RT} {n : Nat} {fs : List Int} {x2 x4 x5 x6 x7 : VA} (hf : fs.length ≤ n) (hl : tsz pre + (n + 1) + tsz post ≤ 1000) :
    TA F (bD (tsz pre) (tF n)) [.v (LI (tm (pre ++ tF n :: post))), .v (LI fs), x2, .v (.int ((fs.length : Int) + 1)), x4, x5, x6, x7] = .ret (.tuple [LI (tm (pre ++ tO fs :: (frem n fs.length ++ post))), .int (tsz pre : Nat)]) := by
  have hb : bD (tsz pre) (tF n) = .tuple [.int (tsz pre : Nat), .int ((n : Int) + 1), .bool true] := by
    unfold bD tF
    have : decide (-((n : Int) + 1) < 0) = true := decide_eq_true (by omega)
    simp [this]
  rw [hb]
  have hlm : (tm (pre ++ tF n :: post)).length = tsz pre + (n + 1 + tsz post) := by simp [tF]; omega
  have s0 := set_ints (m := tm (pre ++ tF n :: post)) (i := tsz pre) (x := (fs.length : Int)) (by omega)
  have h0 : (tm (pre ++ tF n :: post)).set (tsz pre) (fs.length : Int) = (tm pre ++ [(fs.length : Int)]) ++ (fs.take 0 ++ (List.replicate n (0 : Int) ++ tm post).drop 0) := by
    rw [tm_append, List.set_append_right _ _ (by simp), tm_len, Nat.sub_self, tm_cons, List.set_cons_zero]
    simp [tF]
  rw [h0] at s0
  obtain ⟨vi', ew⟩ := writeA (F := F) (fs := fs) (p := tm pre ++ [(fs.length : Int)]) (q := List.replicate n (0 : Int) ++ tm post) (x0 := .v (LI (tm (pre ++ tF n :: post)))) (x2 := x2) (x3 := .v (.int ((fs.length : Int) + 1))) (x4 := .v (.tuple [.int (tsz pre : Nat), .int ((n : Int) + 1), .bool true])) (a := tsz pre) (by simp) (by simp; omega) (m := fs.length) (k := 0) (vi := x7) (by omega)
  have hd : (List.replicate n (0 : Int) ++ tm post).drop fs.length = List.replicate (n - fs.length) 0 ++ tm post := by
    rw [List.drop_append_of_le_length (by simpa using hf), List.drop_replicate]
  have h1 : fs.length < n → (tm pre ++ [(fs.length : Int)] ++ (fs ++ (List.replicate n (0 : Int) ++ tm post).drop fs.length)).set (tsz pre + (fs.length + 1)) (((fs.length : Int) + 1) - ((n : Int) + 1)) = tm (pre ++ tO fs :: (frem n fs.length ++ post)) := by
    intro hgt
    obtain ⟨j, hj⟩ : ∃ j, n - fs.length = j + 1 := ⟨n - fs.length - 1, by omega⟩
    rw [hd, hj, frem, if_pos hgt, show n - fs.length - 1 = j by omega, List.set_append_right _ _ (by simp <;> omega)]
    have e1 : tsz pre + (fs.length + 1) - (tm pre ++ [(fs.length : Int)]).length = fs.length := by simp <;> omega
    rw [e1, List.set_append_right _ _ (by omega), Nat.sub_self, List.replicate_succ, List.cons_append, List.set_cons_zero]
    have e2 : ((fs.length : Int) + 1) - ((n : Int) + 1) = -((j : Int) + 1) := by omega
    rw [e2]
    simp [tO, tF]
  refine runA (M3 := tm (pre ++ tO fs :: (frem n fs.length ++ post))) (by omega) (by omega) s0 ew (fun hgt => ?_) fun hgt => ?_
  · have s1 := set_ints (m := tm pre ++ [(fs.length : Int)] ++ (fs ++ (List.replicate n (0 : Int) ++ tm post).drop fs.length)) (i := tsz pre + (fs.length + 1)) (x := ((fs.length : Int) + 1) - ((n : Int) + 1)) (by rw [hd]; simp; omega)
    rw [h1 (by omega)] at s1
    have hidx : ((tsz pre : Int) + ((fs.length : Int) + 1)) = ((tsz pre + (fs.length + 1) : Nat) : Int) := by omega
    rw [hidx]
    exact s1
  · have : n = fs.length := by omega
    subst this
    rw [hd, frem, if_neg (Nat.lt_irrefl _)]
    simp [tO]
variable {iB : Nat} {s0 s1 s2 : Str}
theorem allocA {m fs : List Int} {bl : List PyData} (hbl : F.fn iB [LI m] = .ok (.list bl)) : evSs F (gAl iB s0 s1 s2) [.v (LI m), .v (LI fs), .un, .un, .un, .un, .un, .un] = seqOut (evSs F [S.raise .oom (E.bin .add (E.bin .add (E.str s1) (E.text (E.var 3))) (E.str s2))]) (forL (TA F) bl [.v (LI m), .v (LI fs), .v (.list bl), .v (.int ((fs.length : Int) + 1)), .un, .un, .un, .un]) := by
  unfold gAl
  refine (step (by simp [hbl]; rfl)).trans ?_
  refine (step ((stepF (by simp [isCD])).trans rfl)).trans ?_
  refine (step (by simp; rfl)).trans ?_
  rw [evSs_seq, for_of (t := TA F) (xs := bl) (by simp) fun _ _ => rfl]
theorem g_alloc {pre post : List RT} {n : Nat} {fs : List Int} (hB : F.fn iB [LI (tm (pre ++ tF n :: post))] = .ok (.list (blkT 0 (pre ++ tF n :: post)))) (hf : fs.length ≤ n) (hpre : ∀ t ∈ pre, noFit fs.length t) (hl : tsz pre + (n + 1) + tsz post ≤ 1000) :
    bodyR (fnR F 8 [0, 1] (gAl iB s0 s1 s2) [LI (tm (pre ++ tF n :: post)), LI fs]) = .ok (.tuple [LI (tm (pre ++ tO fs :: (frem n fs.length ++ post))), .int (tsz pre : Nat)]) := by
  rw [fnR_of (ρ := [.v (LI (tm (pre ++ tF n :: post))), .v (LI fs), .un, .un, .un, .un, .un, .un]) rfl, allocA hB]
  have hbk : blkT 0 (pre ++ tF n :: post) = blkT 0 pre ++ bD (tsz pre) (tF n) :: blkT (tsz pre + (n + 1)) post := by
    rw [blkT_append, Nat.zero_add, blkT_cons]
    simp [tF]
  obtain ⟨x4', e⟩ := skipA (F := F) (x0 := .v (LI (tm (pre ++ tF n :: post)))) (x1 := .v (LI fs)) (x2 := .v (.list (blkT 0 (pre ++ tF n :: post)))) (x5 := .un) (x6 := .un) (x7 := .un) (more := bD (tsz pre) (tF n) :: blkT (tsz pre + (n + 1)) post) (a := 0) (x4 := .un) hpre
  rw [hbk] at e ⊢
  rw [e, forL, hitA hf hl]
  rfl
theorem g_alloc_oom {R : List RT} {fs : List Int} (hB : F.fn iB [LI (tm R)] = .ok (.list (blkT 0 R))) (hR : ∀ t ∈ R, noFit fs.length t) (hfs : fs.length ≤ 4) (h1 : s1.length ≤ 100) (h2 : s2.length ≤ 100) :
    bodyR (fnR F 8 [0, 1] (gAl iB s0 s1 s2) [LI (tm R), LI fs]) = .exc .oom := by
  rw [fnR_of (ρ := [.v (LI (tm R)), .v (LI fs), .un, .un, .un, .un, .un, .un]) rfl, allocA hB]
  obtain ⟨x4', e⟩ := skipA (F := F) (x0 := .v (LI (tm R))) (x1 := .v (LI fs)) (x2 := .v (.list (blkT 0 R))) (x5 := .un) (x6 := .un) (x7 := .un) (more := []) (a := 0) (x4 := .un) hR
  rw [List.append_nil] at e
  rw [e, forL, seqOut_next, stepX (raise_msg (n := fs.length) (by simp) hfs h1 h2)]
  rfl
theorem g_alloc_val {m fs : List Int} (hB : F.fn iB [LI m] = .ok .none) : bodyR (fnR F 8 [0, 1] (gAl iB s0 s1 s2) [LI m, LI fs]) = .exc .value := by
  rw [fnR_of (ρ := [.v (LI m), .v (LI fs), .un, .un, .un, .un, .un, .un]) rfl]
  unfold gAl
  refine (congrArg bodyR (a₂ := .exc .value [.v (LI m), .v (LI fs), .v .none, .un, .un, .un, .un, .un]) ?_).trans rfl
  refine (step (by simp [hB]; rfl)).trans ?_
  refine stepX ((stepT (by simp [isCD])).trans ?_)
  exact stepX (by simp)
end
end Mine

-- G3
namespace Mine
open PySem

theorem cmp_isin {k : Int} {C : List Int} : cmpD .isin (.int k) (LI C) = .ok (.bool (decide (k ∈ C))) := by
  have h1 := (Fg.LI (n := 0) (m := C)).sh (by omega)
  have h2 := (Fg.int (n := 0) (i := k)).sh (by omega)
  exact (cmp_isin_sh (xs := C.map PyData.int) h1 h2).trans (congrArg (fun x => R.ok (PyData.bool x)) any_eqv)
theorem slD_mid {p m q : List Int} {a : Nat} {n : Nat} (ha : p.length = a) (hn : m.length = n) : slD (LI (p ++ (m ++ q))) (.int (a : Nat)) (.int ((a : Int) + (n : Nat))) = .ok (LI m) := by
  have z0 : (0 : Int) ≤ (a : Int) ∧ (0 : Int) ≤ (a : Int) + (n : Nat) := by omega
  have z1 : ((a : Nat) : Int).toNat = a := by omega
  have z2 : ((a : Int) + (n : Nat)).toNat = a + n := by omega
  simp only [slD, LI, if_pos z0, z1, z2]
  rw [← List.map_take, ← List.map_drop, ← ha, ← hn]
  rw [List.take_append, List.drop_append]
  simp

noncomputable def gSwL : List S := [S.assign 5 (E.idx (E.var 4) (E.int 0)), S.assign 6 (E.idx (E.var 4) (E.int 1)), S.ife (E.bop true (E.not (E.idx (E.var 4) (E.int 2))) (E.cmp .isin (E.var 5) (E.var 1))) [S.assignO 2 (E.bin .add (E.own 2) (E.sl (E.var 0) (E.var 5) (E.bin .add (E.var 5) (E.var 6)))), S.assign 3 (E.neg (E.int 1))] [S.ife (E.cmp .ge (E.var 3) (E.int 0)) [S.setItem 2 (E.var 3) (E.bin .sub (E.idx (E.own 2) (E.var 3)) (E.var 6)), S.assignO 2 (E.bin .add (E.own 2) (E.bin .mul (E.lst [(E.int 0)]) (E.var 6)))] [S.assign 3 (E.len (E.own 2)), S.assignO 2 (E.bin .add (E.bin .add (E.own 2) (E.lst [(E.neg (E.var 6))])) (E.bin .mul (E.lst [(E.int 0)]) (E.bin .sub (E.var 6) (E.int 1))))]]]
noncomputable def gSw (iB : Nat) : List S := [S.assignO 2 (E.lst []), S.assign 3 (E.neg (E.int 1)), S.for1 4 (E.call iB [(E.var 0)]) gSwL, S.ret (E.own 2)]

noncomputable def opn : Option Nat → List RT
  | some m => [tF m]
  | none => []
noncomputable def swp (M : List Int) : Nat → List RT → Option Nat → List RT → List RT
  | _, A, r, [] => A ++ opn r
  | a, A, r, t :: R => if ¬ t.1 < 0 ∧ (a : Int) ∈ M then swp M (a + (t.2.length + 1)) (A ++ opn r ++ [t]) none R
    else swp M (a + (t.2.length + 1)) A (some (match r with | some m => m + (t.2.length + 1) | none => t.2.length)) R
theorem swp_cons {M : List Int} {a : Nat} {A R : List RT} {r : Option Nat} {t : RT} : swp M a A r (t :: R) = if ¬ t.1 < 0 ∧ (a : Int) ∈ M then swp M (a + (t.2.length + 1)) (A ++ opn r ++ [t]) none R
    else swp M (a + (t.2.length + 1)) A (some (match r with | some m => m + (t.2.length + 1) | none => t.2.length)) R := rfl
noncomputable def rn (A : List RT) : Option Nat → Int
  | some _ => (tsz A : Nat)
  | none => -1
section
variable {F : FT} {x0 x7 : VA} {M : List Int} {mem : List Int} {x4 x5 x6 : VA}
noncomputable def Tsw (F : FT) (d : PyData) (ρ : Rho) : Out := evSs F gSwL (ρ.set 4 (.v d))
theorem addL {a b : List Int} (h : a.length + b.length ≤ 1048576) : binD .add (LI a) (LI b) = .ok (LI (a ++ b)) := by
  unfold LI
  rw [bin_addL (by simpa using h)]; simp
theorem mulZ {n : Int} (h : -1048576 ≤ n ∧ n ≤ 1048576) : binD .mul (.list [.int 0]) (.int n) = .ok (LI (List.replicate n.toNat 0)) := by
  rw [bin_mulL h]; simp [LI]
theorem bD0 {a : Nat} {t : RT} : idxD (bD a t) (.int 0) = .ok (.int (a : Nat)) := by simp [bD, idxD, nth_zero]
theorem bD1 {a : Nat} {t : RT} : idxD (bD a t) (.int 1) = .ok (.int ((t.2.length : Int) + 1)) := by simp [bD, idxD, nth_one]
theorem bD2 {a : Nat} {t : RT} : idxD (bD a t) (.int 2) = .ok (.bool (decide (t.1 < 0))) := by simp [bD, idxD, nth_two]
theorem turnS_live {a : Nat} {t : RT} {new : List Int} {run : Int} {p q : List Int} (hp : p.length = a) (hm : mem = p ++ ((t.1 :: t.2) ++ q)) (h1 : ¬ t.1 < 0) (h2 : (a : Int) ∈ M) (hl : new.length ≤ 1000) (hml : mem.length ≤ 1000) :
    Tsw F (bD a t) [.v (LI mem), .v (LI M), .own (new.map .int), .v (.int run), x4, x5, x6] = .next [.v (LI mem), .v (LI M), .own ((new ++ t.1 :: t.2).map .int), .v (.int (-1)), .v (bD a t), .v (.int (a : Nat)), .v (.int ((t.2.length : Int) + 1))] := by
  have e1 := slD_mid (p := p) (m := t.1 :: t.2) (q := q) (n := t.2.length + 1) hp (by simp)
  rw [← hm] at e1
  have hlen : t.2.length + 1 ≤ 1000 := by rw [hm] at hml; simp at hml; omega
  have e2 : binD .add (.list (new.map .int)) (LI (t.1 :: t.2)) = .ok (.list ((new ++ t.1 :: t.2).map .int)) := addL (by simp; omega)
  have e3 := cmp_isin (k := (a : Int)) (C := M)
  have e1' : slD (LI mem) (.int (a : Nat)) (.int ((a : Int) + ((t.2.length : Int) + 1))) = .ok (LI (t.1 :: t.2)) := e1
  unfold Tsw gSwL
  have b0 := bD0 (a := a) (t := t)
  have b1 := bD1 (a := a) (t := t)
  have b2 := bD2 (a := a) (t := t)
  generalize bD a t = bd at *
  generalize LI (t.1 :: t.2) = lt at *
  generalize (new ++ t.1 :: t.2).map PyData.int = nw at *
  refine (step (by simp [b0]; rfl)).trans ?_
  refine (step (by simp [b1]; rfl)).trans ?_
  refine (step ((stepT (by simp [b2, h1, e3, h2])).trans ((step (by simp [e1', e2]; rfl)).trans ((step (by simp; rfl)).trans evSs_nil)))).trans ?_
  rfl
theorem turnS_new {a : Nat} {t : RT} {new : List Int} (hd : ¬ (¬ t.1 < 0 ∧ (a : Int) ∈ M)) (hl : new.length ≤ 1000) (hml : t.2.length ≤ 1000) :
    Tsw F (bD a t) [.v (LI mem), .v (LI M), .own (new.map .int), .v (.int (-1)), x4, x5, x6] = .next [.v (LI mem), .v (LI M), .own ((new ++ tm [tF t.2.length]).map .int), .v (.int (new.length : Nat)), .v (bD a t), .v (.int (a : Nat)), .v (.int ((t.2.length : Int) + 1))] := by
  have e2 : binD .add (.list (new.map .int)) (.list [.int (-((t.2.length : Int) + 1))]) = .ok (LI (new ++ [-((t.2.length : Int) + 1)])) := by
    rw [bin_addL (by simp; omega)]; simp [LI]
  have e4 : binD .mul (.list [.int 0]) (.int ((t.2.length : Int) + 1 - 1)) = .ok (LI (List.replicate t.2.length 0)) := by
    rw [mulZ (by omega), show ((t.2.length : Int) + 1 - 1).toNat = t.2.length by omega]
  have e5 : binD .add (LI (new ++ [-((t.2.length : Int) + 1)])) (LI (List.replicate t.2.length 0)) = .ok (.list ((new ++ tm [tF t.2.length]).map .int)) := by
    rw [addL (by simp; omega)]
    simp [LI, tF]
  have e3 := cmp_isin (k := (a : Int)) (C := M)
  unfold Tsw gSwL
  have b0 := bD0 (a := a) (t := t)
  have b1 := bD1 (a := a) (t := t)
  have b2 := bD2 (a := a) (t := t)
  have hlen : lenD (.list (new.map .int)) = .ok (.int (new.length : Nat)) := by simp
  generalize bD a t = bd at *
  generalize LI (new ++ [-((t.2.length : Int) + 1)]) = l1 at *
  generalize LI (List.replicate t.2.length 0) = l2 at *
  generalize (new ++ tm [tF t.2.length]).map PyData.int = nw at *
  generalize new.map PyData.int = nn at *
  refine (step (by simp [b0]; rfl)).trans ?_
  refine (step (by simp [b1]; rfl)).trans ?_
  by_cases q : t.1 < 0
  · refine (step ((stepF (by simp [b2, q])).trans ((step ((stepF (by simp)).trans ((step (by simp only [evS_assign, ev_len, sm_own, getOwn_succ, getOwn_zero, R.bind_ok, hlen, R.out_ok, List.set_cons_succ, List.set_cons_zero]; rfl)).trans ((step (by simp only [evS_assignO_add, ev_bin, sm_bin, sm_own, sm_lst, ev_lst, evL_cons, evL_nil, ev_neg, ev_var, getOwn_succ, getOwn_zero, getV_succ, getV_zero, R.bind_ok, negD_int, e2, sm_var, sm_int, ev_int, bin_sub, e4, e5, R.out_ok, List.set_cons_succ, List.set_cons_zero]; rfl)).trans evSs_nil)))).trans evSs_nil))).trans ?_
    rfl
  · have q2 : (a : Int) ∉ M := fun z => hd ⟨q, z⟩
    refine (step ((stepF (by simp [b2, q, e3, q2])).trans ((step ((stepF (by simp)).trans ((step (by simp only [evS_assign, ev_len, sm_own, getOwn_succ, getOwn_zero, R.bind_ok, hlen, R.out_ok, List.set_cons_succ, List.set_cons_zero]; rfl)).trans ((step (by simp only [evS_assignO_add, ev_bin, sm_bin, sm_own, sm_lst, ev_lst, evL_cons, evL_nil, ev_neg, ev_var, getOwn_succ, getOwn_zero, getV_succ, getV_zero, R.bind_ok, negD_int, e2, sm_var, sm_int, ev_int, bin_sub, e4, e5, R.out_ok, List.set_cons_succ, List.set_cons_zero]; rfl)).trans evSs_nil)))).trans evSs_nil))).trans ?_
    rfl
theorem runS_more {bd l2 : PyData} {nn l1 nw : List PyData} {a z h n : Int} {fr mk : Bool} (b0 : idxD bd (.int 0) = .ok (.int a)) (b1 : idxD bd (.int 1) = .ok (.int n)) (b2 : idxD bd (.int 2) = .ok (.bool fr)) (e3 : cmpD .isin (.int a) (LI M) = .ok (.bool mk)) (hd : fr = false → mk = false) (hge : 0 ≤ z)
    (e1 : idxD (.list nn) (.int z) = .ok (.int h)) (e2 : setListD nn (.int z) (.int (h - n)) = some l1) (e4 : binD .mul (.list [.int 0]) (.int n) = .ok l2) (e5 : binD .add (.list l1) l2 = .ok (.list nw)) :
    Tsw F bd [.v (LI mem), .v (LI M), .own nn, .v (.int z), x4, x5, x6] = .next [.v (LI mem), .v (LI M), .own nw, .v (.int z), .v bd, .v (.int a), .v (.int n)] := by
  unfold Tsw gSwL
  refine (step (by simp [b0]; rfl)).trans ?_
  refine (step (by simp [b1]; rfl)).trans ?_
  cases fr with
  | true =>
    refine (step ((stepF (by simp [b2])).trans ((step ((stepT (by simp [hge])).trans ((step (by simp only [evS_setItem, ev_bin, sm_idx, ev_idx, sm_own, getOwn_succ, getOwn_zero, ev_var, getV_succ, getV_zero, R.bind_ok, e1, sm_var, bin_sub, R.out_ok, List.getElem?_cons_succ, List.getElem?_cons_zero, e2, List.set_cons_succ, List.set_cons_zero]; rfl)).trans ((step (by simp only [evS_assignO_add, ev_bin, sm_bin, sm_own, sm_lst, ev_lst, evL_cons, evL_nil, ev_int, ev_var, getOwn_succ, getOwn_zero, getV_succ, getV_zero, R.bind_ok, sm_var, e4, e5, R.out_ok, List.set_cons_succ, List.set_cons_zero]; rfl)).trans evSs_nil)))).trans evSs_nil))).trans ?_
    rfl
  | false =>
    rw [hd rfl] at e3
    refine (step ((stepF (by simp [b2, e3])).trans ((step ((stepT (by simp [hge])).trans ((step (by simp only [evS_setItem, ev_bin, sm_idx, ev_idx, sm_own, getOwn_succ, getOwn_zero, ev_var, getV_succ, getV_zero, R.bind_ok, e1, sm_var, bin_sub, R.out_ok, List.getElem?_cons_succ, List.getElem?_cons_zero, e2, List.set_cons_succ, List.set_cons_zero]; rfl)).trans ((step (by simp only [evS_assignO_add, ev_bin, sm_bin, sm_own, sm_lst, ev_lst, evL_cons, evL_nil, ev_int, ev_var, getOwn_succ, getOwn_zero, getV_succ, getV_zero, R.bind_ok, sm_var, e4, e5, R.out_ok, List.set_cons_succ, List.set_cons_zero]; rfl)).trans evSs_nil)))).trans evSs_nil))).trans ?_
    rfl
theorem turnS_more {a m : Nat} {t : RT} {A : List RT} (hd : ¬ (¬ t.1 < 0 ∧ (a : Int) ∈ M)) (hl : tsz A + (m + 1) ≤ 1000) (hml : t.2.length ≤ 1000) :
    Tsw F (bD a t) [.v (LI mem), .v (LI M), .own ((tm (A ++ [tF m])).map .int), .v (.int (tsz A : Nat)), x4, x5, x6] = .next [.v (LI mem), .v (LI M), .own ((tm (A ++ [tF (m + (t.2.length + 1))])).map .int), .v (.int (tsz A : Nat)), .v (bD a t), .v (.int (a : Nat)), .v (.int ((t.2.length : Int) + 1))] := by
  have hlen : (tm (A ++ [tF m])).length = tsz A + (m + 1) := by simp [tF]
  have e1 : idxD (.list ((tm (A ++ [tF m])).map .int)) (.int (tsz A : Nat)) = .ok (.int (-((m : Int) + 1))) := by
    refine idx_ints ?_
    rw [tm_append, ← tm_len (R := A), List.getElem?_append_right (Nat.le_refl _)]
    simp [tF]
  have e2 := set_ints (m := tm (A ++ [tF m])) (i := tsz A) (x := -((m : Int) + 1) - ((t.2.length : Int) + 1)) (by omega)
  have hset : (tm (A ++ [tF m])).set (tsz A) (-((m : Int) + 1) - ((t.2.length : Int) + 1)) = tm A ++ (-((m : Int) + 1) - ((t.2.length : Int) + 1)) :: List.replicate m 0 := by
    rw [tm_append, ← tm_len (R := A), List.set_append_right _ _ (Nat.le_refl _), Nat.sub_self]
    simp [tF]
  rw [hset] at e2
  have e4 : binD .mul (.list [.int 0]) (.int ((t.2.length : Int) + 1)) = .ok (LI (List.replicate (t.2.length + 1) 0)) := by
    rw [mulZ (by omega), show ((t.2.length : Int) + 1).toNat = t.2.length + 1 by omega]
  have e5 : binD .add (.list ((tm A ++ (-((m : Int) + 1) - ((t.2.length : Int) + 1)) :: List.replicate m 0).map .int)) (LI (List.replicate (t.2.length + 1) 0)) = .ok (.list ((tm (A ++ [tF (m + (t.2.length + 1))])).map .int)) := by
    have hh : -((m : Int) + 1) - ((t.2.length : Int) + 1) = -(((m + (t.2.length + 1) : Nat) : Int) + 1) := by omega
    have hw : tm A ++ (-((m : Int) + 1) - ((t.2.length : Int) + 1)) :: List.replicate m 0 ++ List.replicate (t.2.length + 1) 0 = tm (A ++ [tF (m + (t.2.length + 1))]) := by
      rw [hh, tm_append, tm_cons, tm_nil, List.append_nil, List.append_assoc, List.cons_append, List.replicate_append_replicate, tF]
    have := addL (a := tm A ++ (-((m : Int) + 1) - ((t.2.length : Int) + 1)) :: List.replicate m 0) (b := List.replicate (t.2.length + 1) 0) (by simp; omega)
    rw [hw] at this
    exact this
  exact runS_more bD0 bD1 bD2 (cmp_isin (k := (a : Int)) (C := M)) (by simpa using hd) (by omega) e1 e2 e4 e5
theorem opn_sz {r : Option Nat} : tsz (opn r) = match r with | some m => m + 1 | none => 0 := by
  cases r <;> simp [opn, tF]
theorem loopS (hml : mem.length ≤ 1000) : ∀ {R : List RT} {p : List Int} {A : List RT} {r : Option Nat} {x4 x5 x6 : VA}, mem = p ++ tm R → tsz (A ++ opn r) = p.length →
    ∃ run y4 y5 y6, forL (Tsw F) (blkT p.length R) [.v (LI mem), .v (LI M), .own ((tm (A ++ opn r)).map .int), .v (.int (rn A r)), x4, x5, x6] = .next [.v (LI mem), .v (LI M), .own ((tm (swp M p.length A r R)).map .int), .v (.int run), y4, y5, y6]
  | [], p, A, r, x4, x5, x6, _, _ => ⟨_, x4, x5, x6, rfl⟩
  | t :: R, p, A, r, x4, x5, x6, hm, hs => by
    have hlen : mem.length = p.length + (t.2.length + 1 + tsz R) := by rw [hm]; simp; omega
    have hp2 : (p ++ t.1 :: t.2).length = p.length + (t.2.length + 1) := by simp
    have hm2 : mem = (p ++ t.1 :: t.2) ++ tm R := by rw [hm]; simp
    by_cases q : ¬ t.1 < 0 ∧ ((p.length : Nat) : Int) ∈ M
    · obtain ⟨run, y4, y5, y6, ih⟩ := loopS hml (R := R) (p := p ++ t.1 :: t.2) (A := A ++ opn r ++ [t]) (r := none) (x4 := .v (bD p.length t)) (x5 := .v (.int (p.length : Nat))) (x6 := .v (.int ((t.2.length : Int) + 1))) hm2 (by rw [hp2, opn, List.append_nil, tsz_append, hs]; simp)
      refine ⟨run, y4, y5, y6, ?_⟩
      have hm3 : mem = p ++ ((t.1 :: t.2) ++ tm R) := by rw [hm]; simp
      rw [blkT_cons, forL, turnS_live rfl hm3 q.1 q.2 (by rw [tm_len, hs]; omega) hml]
      rw [hp2] at ih
      have hw : tm (A ++ opn r ++ [t] ++ opn none) = tm (A ++ opn r) ++ t.1 :: t.2 := by simp [opn]
      rw [hw] at ih
      rw [swp_cons, if_pos q]
      exact ih
    · cases r with
      | none =>
        obtain ⟨run, y4, y5, y6, ih⟩ := loopS hml (R := R) (p := p ++ t.1 :: t.2) (A := A) (r := some t.2.length) (x4 := .v (bD p.length t)) (x5 := .v (.int (p.length : Nat))) (x6 := .v (.int ((t.2.length : Int) + 1))) hm2 (by
          rw [opn, List.append_nil] at hs
          rw [hp2, tsz_append, hs, opn_sz])
        refine ⟨run, y4, y5, y6, ?_⟩
        have hr0 : opn none = [] := rfl
        rw [hr0, List.append_nil] at hs ⊢
        have hrn : rn A none = -1 := rfl
        rw [blkT_cons, forL, hrn, turnS_new q (by rw [tm_len, hs]; omega) (by omega)]
        rw [hp2] at ih
        have hw : tm (A ++ opn (some t.2.length)) = tm A ++ tm [tF t.2.length] := by rw [tm_append]; rfl
        have hrn2 : rn A (some t.2.length) = ((tm A).length : Nat) := by rw [tm_len]; rfl
        rw [hw, hrn2] at ih
        rw [swp_cons, if_neg q]
        exact ih
      | some m =>
        obtain ⟨run, y4, y5, y6, ih⟩ := loopS hml (R := R) (p := p ++ t.1 :: t.2) (A := A) (r := some (m + (t.2.length + 1))) (x4 := .v (bD p.length t)) (x5 := .v (.int (p.length : Nat))) (x6 := .v (.int ((t.2.length : Int) + 1))) hm2 (by
          rw [tsz_append, opn_sz] at hs ⊢
          simp only at hs ⊢
          omega)
        refine ⟨run, y4, y5, y6, ?_⟩
        have hr0 : opn (some m) = [tF m] := rfl
        have hr1 : opn (some (m + (t.2.length + 1))) = [tF (m + (t.2.length + 1))] := rfl
        have hrn : rn A (some m) = (tsz A : Nat) := rfl
        have hrn2 : rn A (some (m + (t.2.length + 1))) = (tsz A : Nat) := rfl
        rw [hr0] at hs ⊢
        have hsz : tsz A + (m + 1) = p.length := by rw [← hs]; simp [tF]
        rw [blkT_cons, forL, hrn, turnS_more q (by omega) (by omega)]
        rw [hp2, hr1, hrn2] at ih
        rw [swp_cons, if_neg q]
        exact ih
theorem g_swept {iB : Nat} {R : List RT} (hB : F.fn iB [LI (tm R)] = .ok (.list (blkT 0 R))) (hl : tsz R ≤ 1000) : bodyR (fnR F 7 [0, 1] (gSw iB) [LI (tm R), LI M]) = .ok (LI (tm (swp M 0 [] none R))) := by
  obtain ⟨run, y4, y5, y6, e⟩ := loopS (F := F) (M := M) (mem := tm R) (by simpa using hl) (R := R) (p := []) (A := []) (r := none) (x4 := .un) (x5 := .un) (x6 := .un) (by simp) (by simp [opn])
  rw [fnR_of (ρ := [.v (LI (tm R)), .v (LI M), .un, .un, .un, .un, .un]) rfl]
  refine (congrArg bodyR (a₂ := .ret (LI (tm (swp M 0 [] none R)))) ?_).trans rfl
  unfold gSw LI at *
  have h0 : (tm ([] ++ opn none)).map PyData.int = [] := rfl
  rw [h0] at e
  have h1 : rn [] none = -1 := rfl
  rw [h1, List.length_nil] at e
  generalize (tm (swp M 0 [] none R)).map PyData.int = out at *
  generalize (tm R).map PyData.int = m0 at *
  generalize M.map PyData.int = mm at *
  generalize blkT 0 R = bl at *
  generalize hb : gSwL = gb at *
  refine (step (by simp; rfl)).trans ?_
  refine (step (by simp; rfl)).trans ?_
  refine (step ((for_of (t := Tsw F) (xs := bl) (by simp [hB]) fun _ _ => by rw [← hb]; rfl).trans e)).trans ?_
  exact stepR (by simp)

noncomputable def allLive (M : List Int) : Nat → List RT → Prop
  | _, [] => True
  | a, t :: L => (¬ t.1 < 0 ∧ (a : Int) ∈ M) ∧ allLive M (a + (t.2.length + 1)) L
theorem swp_live {R : List RT} : ∀ {L A : List RT} {a : Nat}, allLive M a L → swp M a A none (L ++ R) = swp M (a + tsz L) (A ++ L) none R
  | [], A, a, _ => by simp
  | t :: L, A, a, h => by
    rw [List.cons_append, swp_cons, if_pos h.1, swp_live h.2, tsz_cons, opn, List.append_nil, List.append_assoc, List.singleton_append, Nat.add_assoc]
theorem swp_live' {L R A : List RT} {a m : Nat} {t : RT} (h : allLive M a (t :: L)) : swp M a A (some m) (t :: L ++ R) = swp M (a + tsz (t :: L)) (A ++ tF m :: t :: L) none R := by
  rw [List.cons_append, swp_cons, if_pos h.1, swp_live h.2, tsz_cons, opn]
  simp [Nat.add_assoc]
end
end Mine

-- G4
namespace Mine
open PySem

noncomputable def heads : Nat → List RT → List Int
  | _, [] => []
  | a, t :: R => (if t.1 < 0 then [] else [(a : Int)]) ++ heads (a + (t.2.length + 1)) R
noncomputable def flds : List RT → List Int
  | [] => []
  | t :: R => (if t.1 < 0 then [] else t.2) ++ flds R
noncomputable def frw : List RT → Nat
  | [] => 0
  | t :: R => (if t.1 < 0 then t.2.length + 1 else 0) + frw R
theorem heads_append : ∀ {R Q : List RT} {a : Nat}, heads a (R ++ Q) = heads a R ++ heads (a + tsz R) Q
  | [], Q, a => by simp [heads]
  | t :: R, Q, a => by
    rw [List.cons_append, heads, heads, heads_append, tsz_cons, List.append_assoc, Nat.add_assoc]
theorem flds_append : ∀ {R Q : List RT}, flds (R ++ Q) = flds R ++ flds Q
  | [], Q => rfl
  | t :: R, Q => by rw [List.cons_append, flds, flds, flds_append, List.append_assoc]
theorem frw_append : ∀ {R Q : List RT}, frw (R ++ Q) = frw R + frw Q
  | [], Q => by simp [frw]
  | t :: R, Q => by rw [List.cons_append, frw, frw, frw_append]; omega
section
variable {F : FT}
noncomputable def gPtr : List S := [S.ret (E.cmp .eq (E.bin .mod (E.var 0) (E.int 2)) (E.int 1))]
theorem g_ptr {w : Int} : bodyR (fnR F 1 [0] gPtr [.int w]) = .ok (.bool (decide (w % 2 = 1))) := by simp [fnR, gPtr]
noncomputable def gAddr : List S := [S.ret (E.bin .fdiv (E.var 0) (E.int 2))]
theorem g_addr {w : Int} : bodyR (fnR F 1 [0] gAddr [.int w]) = .ok (.int (w / 2)) := by simp [fnR, gAddr]
noncomputable def gPto : List S := [S.ret (E.bin .add (E.bin .mul (E.int 2) (E.var 0)) (E.int 1))]
theorem g_pto {a : Int} : bodyR (fnR F 1 [0] gPto [.int a]) = .ok (.int (2 * a + 1)) := by simp [fnR, gPto]
noncomputable def gWon : List S := [S.ret (E.bin .mul (E.int 2) (E.var 0))]
theorem g_won {a : Int} : bodyR (fnR F 1 [0] gWon [.int a]) = .ok (.int (2 * a)) := by simp [fnR, gWon]
noncomputable def gFm (s : Str) : List S := [S.ife (E.cmp .lt (E.var 0) (E.int 1)) [S.raise .value (E.str s)] [], S.ret (E.bin .add (E.lst [(E.neg (E.var 0))]) (E.bin .mul (E.lst [(E.int 0)]) (E.bin .sub (E.var 0) (E.int 1))))]
theorem g_fm {n : Nat} {s : Str} (h : n ≤ 1000) : bodyR (fnR F 1 [0] (gFm s) [.int ((n : Int) + 1)]) = .ok (LI (tm [tF n])) := by
  rw [fnR_of (ρ := [.v (.int ((n : Int) + 1))]) rfl]
  refine (congrArg bodyR (a₂ := .ret (LI (tm [tF n]))) ?_).trans rfl
  have e1 : binD .mul (.list [.int 0]) (.int ((n : Int) + 1 - 1)) = .ok (LI (List.replicate n 0)) := by
    rw [mulZ (by omega), show ((n : Int) + 1 - 1).toNat = n by omega]
  have e2 : binD .add (.list [.int (-((n : Int) + 1))]) (LI (List.replicate n 0)) = .ok (LI (tm [tF n])) := by
    have := addL (a := [-((n : Int) + 1)]) (b := List.replicate n 0) (by simp; omega)
    rw [show tm [tF n] = [-((n : Int) + 1)] ++ List.replicate n 0 by simp [tF]]
    exact this
  unfold gFm
  generalize LI (tm [tF n]) = out at *
  generalize LI (List.replicate n 0) = z at *
  have h1 : ¬ ((n : Int) + 1 < 1) := by omega
  refine (step ((stepF (by simp only [ev_cmp, sm_var, sm_int, ev_var, ev_int, getV_zero, R.bind_ok, cmp_lt, h1, decide_false])).trans evSs_nil)).trans ?_
  exact stepR (by simp only [evS_ret, sm_bin, ev_bin, sm_lst, ev_lst, evL_cons, evL_nil, ev_neg, ev_var, getV_zero, R.bind_ok, negD_int, ev_int, sm_var, sm_int, bin_sub, e1, e2, R.out_ok])
theorem g_fm0 {n : Int} {s : Str} (h : n < 1) : bodyR (fnR F 1 [0] (gFm s) [.int n]) = .exc .value := by
  rw [fnR_of (ρ := [.v (.int n)]) rfl]
  refine (congrArg bodyR (a₂ := .exc .value [.v (.int n)]) ?_).trans rfl
  unfold gFm
  refine stepX ((stepT (by simp [h])).trans ?_)
  exact stepX (by simp)

noncomputable def gFo : List S := [S.ret (E.sl (E.var 0) (E.bin .add (E.var 1) (E.int 1)) (E.bin .add (E.bin .add (E.var 1) (E.int 1)) (E.idx (E.var 0) (E.var 1))))]
theorem g_fields {p r q : List Int} {a : Nat} (ha : p.length = a) : bodyR (fnR F 2 [0, 1] gFo [LI (p ++ ((r.length : Int) :: (r ++ q))), .int (a : Nat)]) = .ok (LI r) := by
  rw [fnR_of (ρ := [.v (LI (p ++ ((r.length : Int) :: (r ++ q)))), .v (.int (a : Nat))]) rfl]
  refine (congrArg bodyR (a₂ := .ret (LI r)) ?_).trans rfl
  have hi : idxD (LI (p ++ ((r.length : Int) :: (r ++ q)))) (.int (a : Nat)) = .ok (.int (r.length : Nat)) := idx_LI (by rw [← ha]; simp)
  have hs : slD (LI (p ++ ((r.length : Int) :: (r ++ q)))) (.int ((a : Int) + 1)) (.int ((a : Int) + 1 + (r.length : Nat))) = .ok (LI r) := by
    have := slD_mid (p := p ++ [(r.length : Int)]) (m := r) (q := q) (a := a + 1) (n := r.length) (by simp [ha]) rfl
    rw [show p ++ [(r.length : Int)] ++ (r ++ q) = p ++ ((r.length : Int) :: (r ++ q)) by simp] at this
    exact this
  unfold gFo
  generalize LI (p ++ ((r.length : Int) :: (r ++ q))) = m at *
  exact stepR (by simp [hi, hs])
noncomputable def gWf : List S := [S.assignO 4 (E.lcopy (E.var 0)), S.setItem 4 (E.bin .add (E.bin .add (E.var 1) (E.int 1)) (E.var 2)) (E.var 3), S.ret (E.own 4)]
theorem g_with {m : List Int} {a i : Nat} {w : Int} (h : a + 1 + i < m.length) : bodyR (fnR F 5 [0, 1, 2, 3] gWf [LI m, .int (a : Nat), .int (i : Nat), .int w]) = .ok (LI (m.set (a + 1 + i) w)) := by
  rw [fnR_of (ρ := [.v (LI m), .v (.int (a : Nat)), .v (.int (i : Nat)), .v (.int w), .un]) rfl]
  have hs : setListD (m.map .int) (.int ((a : Int) + 1 + (i : Int))) (.int w) = some ((m.set (a + 1 + i) w).map .int) := by
    have := set_ints (m := m) (i := a + 1 + i) (x := w) h
    rw [show ((a : Int) + 1 + (i : Int)) = ((a + 1 + i : Nat) : Int) by omega]
    exact this
  refine (congrArg bodyR (a₂ := .ret (LI (m.set (a + 1 + i) w))) ?_).trans rfl
  unfold LI gWf
  generalize (m.set (a + 1 + i) w).map PyData.int = m2 at *
  generalize m.map PyData.int = m1 at *
  refine (step (by simp; rfl)).trans ?_
  refine (step (by simp [hs]; rfl)).trans ?_
  exact stepR (by simp)

theorem filt_heads {ρ : Rho} : ∀ {R : List RT} {a : Nat}, filterR (fun x => ev F ρ (some x) (E.not (E.idx E.cv (E.int 2)))) (fun x => ev F ρ (some x) (E.idx E.cv (E.int 0))) (blkT a R) = .ok ((heads a R).map .int)
  | [], a => rfl
  | t :: R, a => by
    have ih := filt_heads (ρ := ρ) (R := R) (a := a + (t.2.length + 1))
    rw [blkT_cons, filterR, heads]
    have b0 := bD0 (a := a) (t := t)
    have b2 := bD2 (a := a) (t := t)
    by_cases q : t.1 < 0
    · have e1 : ev F ρ (some (bD a t)) (E.not (E.idx E.cv (E.int 2))) = .ok (.bool false) := by simp [b2, q]
      rw [e1, if_pos q]
      simp only [ih]
      rfl
    · have e1 : ev F ρ (some (bD a t)) (E.not (E.idx E.cv (E.int 2))) = .ok (.bool true) := by simp [b2, q]
      have e2 : ev F ρ (some (bD a t)) (E.idx E.cv (E.int 0)) = .ok (.int (a : Nat)) := by simp [b0]
      rw [e1, if_neg q]
      simp only [e2, ih]
      rfl
theorem ev_compIfS {ρ : Rho} {c : Option PyData} {elt cond src : E} {xs ys : List PyData} (h1 : evI F ρ c src = .ok xs) (h2 : filterR (fun x => ev F ρ (some x) cond) (fun x => ev F ρ (some x) elt) xs = .ok ys) : ev F ρ c (.compIf elt cond src) = .ok (.list ys) := by
  rw [ev_compIf, h1, R.bind_ok, h2]; rfl
noncomputable def gOb (iB : Nat) : List S := [S.ret (E.compIf (E.idx E.cv (E.int 0)) (E.not (E.idx E.cv (E.int 2))) (E.call iB [(E.var 0)]))]
theorem g_objects {iB : Nat} {R : List RT} {m : PyData} (hB : F.fn iB [m] = .ok (.list (blkT 0 R))) : bodyR (fnR F 1 [0] (gOb iB) [m]) = .ok (LI (heads 0 R)) := by
  rw [fnR_of (ρ := [.v m]) rfl]
  refine (congrArg bodyR (a₂ := .ret (LI (heads 0 R))) ?_).trans rfl
  unfold gOb
  exact stepR (by rw [evS_ret, sm_compIf, ev_compIfS (xs := blkT 0 R) (by simp [hB]) filt_heads]; rfl)
noncomputable def gFwL : List S := [S.ife (E.idx (E.var 2) (E.int 2)) [S.assign 1 (E.bin .add (E.var 1) (E.idx (E.var 2) (E.int 1)))] []]
noncomputable def gFw (iB : Nat) : List S := [S.assign 1 (E.int 0), S.for1 2 (E.call iB [(E.var 0)]) gFwL, S.ret (E.var 1)]
theorem loopFw {x0 : VA} : ∀ {R : List RT} {a n : Nat} {x2 : VA}, ∃ y2, forL (fun d ρ => evSs F gFwL (ρ.set 2 (.v d))) (blkT a R) [x0, .v (.int (n : Nat)), x2] = .next [x0, .v (.int ((n + frw R : Nat) : Int)), y2]
  | [], a, n, x2 => ⟨x2, rfl⟩
  | t :: R, a, n, x2 => by
    have b1 := bD1 (a := a) (t := t)
    have b2 := bD2 (a := a) (t := t)
    rw [blkT_cons, forL, frw]
    by_cases q : t.1 < 0
    · obtain ⟨y2, ih⟩ := loopFw (x0 := x0) (R := R) (a := a + (t.2.length + 1)) (n := n + (t.2.length + 1)) (x2 := .v (bD a t))
      refine ⟨y2, ?_⟩
      have e : evSs F gFwL ([x0, .v (.int (n : Nat)), x2].set 2 (.v (bD a t))) = .next [x0, .v (.int ((n + (t.2.length + 1) : Nat) : Int)), .v (bD a t)] := by
        unfold gFwL
        generalize bD a t = bd at *
        refine (step ((stepT (by simp [b2, q])).trans ((step (by simp [b1]; rfl)).trans evSs_nil))).trans ?_
        have : (n : Int) + ((t.2.length : Int) + 1) = ((n + (t.2.length + 1) : Nat) : Int) := by omega
        rw [this]
        rfl
      rw [e, if_pos q]
      simp only
      rw [ih, Nat.add_assoc]
    · obtain ⟨y2, ih⟩ := loopFw (x0 := x0) (R := R) (a := a + (t.2.length + 1)) (n := n) (x2 := .v (bD a t))
      refine ⟨y2, ?_⟩
      have e : evSs F gFwL ([x0, .v (.int (n : Nat)), x2].set 2 (.v (bD a t))) = .next [x0, .v (.int (n : Nat)), .v (bD a t)] := by
        unfold gFwL
        generalize bD a t = bd at *
        refine (step ((stepF (by simp [b2, q])).trans evSs_nil)).trans ?_
        rfl
      rw [e, if_neg q]
      simp only
      rw [ih, Nat.zero_add]
theorem g_freew {iB : Nat} {R : List RT} {m : PyData} (hB : F.fn iB [m] = .ok (.list (blkT 0 R))) : bodyR (fnR F 3 [0] (gFw iB) [m]) = .ok (.int (frw R : Nat)) := by
  rw [fnR_of (ρ := [.v m, .un, .un]) rfl]
  refine (congrArg bodyR (a₂ := .ret (.int (frw R : Nat))) ?_).trans rfl
  obtain ⟨y2, e⟩ := loopFw (F := F) (x0 := .v m) (R := R) (a := 0) (n := 0) (x2 := .un)
  rw [Nat.zero_add] at e
  unfold gFw
  generalize hb : gFwL = gb at *
  refine (step (by simp; rfl)).trans ?_
  refine (step ((for_of (t := fun d ρ => evSs F gb (ρ.set 2 (.v d))) (xs := blkT 0 R) (by simp [hB]) fun _ _ => rfl).trans e)).trans ?_
  exact stepR (by simp)

noncomputable def gMoA : List S := [S.assign 4 (E.bin .add (E.var 4) (E.sl (E.var 0) (E.bin .add (E.var 5) (E.int 1)) (E.bin .add (E.bin .add (E.var 5) (E.int 1)) (E.idx (E.var 0) (E.var 5)))))]
noncomputable def gMoB (iP iA : Nat) : List S := [S.ife (E.cmp .lt (E.var 6) (E.int 0)) [S.ret (E.bool false)] [], S.ife (E.bop true (E.call iP [(E.var 6)]) (E.cmp .notin (E.call iA [(E.var 6)]) (E.var 3))) [S.ret (E.bool false)] []]
noncomputable def gMo (iB iP iA : Nat) : List S := [S.assign 2 (E.call iB [(E.var 0)]), S.ife (E.isC true (E.var 2) E.none) [S.ret (E.bool false)] [], S.assign 3 (E.compIf (E.idx E.cv (E.int 0)) (E.not (E.idx E.cv (E.int 2))) (E.var 2)), S.assign 4 (E.lcopy (E.var 1)), S.for1 5 (E.var 3) gMoA, S.for1 6 (E.var 4) (gMoB iP iA), S.ret (E.bool true)]
noncomputable def wOk (hs : List Int) (w : Int) : Bool := decide (0 ≤ w ∧ (w % 2 = 1 → w / 2 ∈ hs))
theorem loopMa {x1 x2 x3 x6 : VA} {mem : List Int} (hml : mem.length ≤ 1000) : ∀ {R : List RT} {p ws : List Int} {x5 : VA}, mem = p ++ tm R → (∀ t ∈ R, Tk t) → ws.length ≤ 1000 + p.length → ∃ y5, forL (fun d ρ => evSs F gMoA (ρ.set 5 (.v d))) ((heads p.length R).map .int) [.v (LI mem), x1, x2, x3, .v (LI ws), x5, x6] = .next [.v (LI mem), x1, x2, x3, .v (LI (ws ++ flds R)), y5, x6]
  | [], p, ws, x5, _, _, _ => ⟨x5, by simp [heads, flds, forL]⟩
  | t :: R, p, ws, x5, hm, ht, hl => by
    have hp2 : (p ++ t.1 :: t.2).length = p.length + (t.2.length + 1) := by simp
    have hm2 : mem = (p ++ t.1 :: t.2) ++ tm R := by rw [hm]; simp
    have hlen : mem.length = p.length + (t.2.length + 1 + tsz R) := by rw [hm]; simp; omega
    rw [heads, flds]
    by_cases q : t.1 < 0
    · obtain ⟨y5, ih⟩ := loopMa (x1 := x1) (x2 := x2) (x3 := x3) (x6 := x6) hml (R := R) (p := p ++ t.1 :: t.2) (ws := ws) (x5 := x5) hm2 (fun u hu => ht u (.tail _ hu)) (by omega)
      rw [if_pos q, if_pos q]
      rw [hp2] at ih
      exact ⟨y5, by simpa using ih⟩
    · obtain ⟨y5, ih⟩ := loopMa (x1 := x1) (x2 := x2) (x3 := x3) (x6 := x6) hml (R := R) (p := p ++ t.1 :: t.2) (ws := ws ++ t.2) (x5 := .v (.int (p.length : Nat))) hm2 (fun u hu => ht u (.tail _ hu)) (by rw [hp2, List.length_append]; omega)
      rw [if_neg q, if_neg q]
      refine ⟨y5, ?_⟩
      have hok := ht t (.head _)
      have h1 : t.1 = (t.2.length : Int) := by
        unfold Tk nOf at hok
        rw [if_pos (by omega)] at hok; omega
      have hi : idxD (LI mem) (.int (p.length : Nat)) = .ok (.int (t.2.length : Nat)) := idx_LI (by rw [hm]; simp [h1])
      have hs : slD (LI mem) (.int ((p.length : Int) + 1)) (.int ((p.length : Int) + 1 + (t.2.length : Nat))) = .ok (LI t.2) := by
        have := slD_mid (p := p ++ [t.1]) (m := t.2) (q := tm R) (a := p.length + 1) (n := t.2.length) (by simp) rfl
        rw [show p ++ [t.1] ++ (t.2 ++ tm R) = mem by rw [hm]; simp] at this
        exact this
      have ha := addL (a := ws) (b := t.2) (by omega)
      have e : evSs F gMoA ([VA.v (LI mem), x1, x2, x3, .v (LI ws), x5, x6].set 5 (.v (.int (p.length : Nat)))) = .next [.v (LI mem), x1, x2, x3, .v (LI (ws ++ t.2)), .v (.int (p.length : Nat)), x6] := by
        unfold gMoA
        generalize LI mem = lm at *
        generalize LI ws = lw at *
        generalize LI t.2 = l2 at *
        refine (step (by simp [hi, hs, ha]; rfl)).trans ?_
        rfl
      rw [List.singleton_append, List.map_cons, forL, e]
      simp only
      rw [hp2, List.append_assoc] at ih
      exact ih
theorem loopMb {iP iA : Nat} {hs : List Int} {x0 x1 x2 x4 x5 : VA} (hP : ∀ w : Int, F.fn iP [.int w] = .ok (.bool (decide (w % 2 = 1)))) (hA : ∀ w : Int, F.fn iA [.int w] = .ok (.int (w / 2))) : ∀ {ws : List Int} {x6 : VA},
    ∃ y6, forL (fun d ρ => evSs F (gMoB iP iA) (ρ.set 6 (.v d))) (ws.map .int) [x0, x1, x2, .v (LI hs), x4, x5, x6] = if ws.all (wOk hs) then .next [x0, x1, x2, .v (LI hs), x4, x5, y6] else .ret (.bool false)
  | [], x6 => ⟨x6, rfl⟩
  | w :: ws, x6 => by
    have h1 := hP w
    have h2 := hA w
    have h3 := cmp_notin (k := w / 2) (C := hs)
    obtain ⟨y6, ih⟩ := loopMb (hs := hs) (x0 := x0) (x1 := x1) (x2 := x2) (x4 := x4) (x5 := x5) hP hA (ws := ws) (x6 := .v (.int w))
    refine ⟨y6, ?_⟩
    rw [List.map_cons, forL, List.all_cons]
    by_cases q : wOk hs w = true
    · have e : evSs F (gMoB iP iA) ([x0, x1, x2, .v (LI hs), x4, x5, x6].set 6 (.v (.int w))) = .next [x0, x1, x2, .v (LI hs), x4, x5, .v (.int w)] := by
        unfold wOk at q
        rw [decide_eq_true_eq] at q
        have q1 : ¬ w < 0 := by omega
        unfold gMoB
        generalize LI hs = lh at *
        refine (step ((stepF (by simp [q1])).trans evSs_nil)).trans ?_
        by_cases z : w % 2 = 1
        · have q2 := q.2 z
          refine (step ((stepF (by simp [h1, h2, h3, z, q2])).trans evSs_nil)).trans ?_
          rfl
        · refine (step ((stepF (by simp [h1, z])).trans evSs_nil)).trans ?_
          rfl
      rw [e, q]
      simpa using ih
    · have q' : wOk hs w = false := by simpa using q
      have e : evSs F (gMoB iP iA) ([x0, x1, x2, .v (LI hs), x4, x5, x6].set 6 (.v (.int w))) = .ret (.bool false) := by
        unfold wOk at q'
        rw [decide_eq_false_iff_not] at q'
        unfold gMoB
        generalize LI hs = lh at *
        by_cases z : w < 0
        · refine stepR ((stepT (by simp [z])).trans (stepR ?_))
          simp
        · refine (step ((stepF (by simp [z])).trans evSs_nil)).trans ?_
          have z1 : w % 2 = 1 := Classical.byContradiction fun n => q' ⟨by omega, fun y => absurd y n⟩
          have z2 : w / 2 ∉ hs := fun n => q' ⟨by omega, fun _ => n⟩
          refine stepR ((stepT (by simp [h1, h2, h3, z1, z2])).trans (stepR ?_))
          simp
      rw [e, q']
      simp
theorem g_memok {iB iP iA : Nat} {R : List RT} {rs : List Int} (hP : ∀ w : Int, F.fn iP [.int w] = .ok (.bool (decide (w % 2 = 1)))) (hA : ∀ w : Int, F.fn iA [.int w] = .ok (.int (w / 2))) (hB : F.fn iB [LI (tm R)] = .ok (.list (blkT 0 R))) (ht : ∀ t ∈ R, Tk t) (hl : tsz R ≤ 1000) (hr : rs.length ≤ 1000) :
    bodyR (fnR F 7 [0, 1] (gMo iB iP iA) [LI (tm R), LI rs]) = .ok (.bool ((rs ++ flds R).all (wOk (heads 0 R)))) := by
  rw [fnR_of (ρ := [.v (LI (tm R)), .v (LI rs), .un, .un, .un, .un, .un]) rfl]
  refine (congrArg bodyR (a₂ := .ret (.bool ((rs ++ flds R).all (wOk (heads 0 R))))) ?_).trans rfl
  obtain ⟨y5, e1⟩ := loopMa (F := F) (x1 := .v (LI rs)) (x2 := .v (.list (blkT 0 R))) (x3 := .v (LI (heads 0 R))) (x6 := .un) (mem := tm R) (by simpa using hl) (R := R) (p := []) (ws := rs) (x5 := .un) (by simp) ht (by simpa using hr)
  obtain ⟨y6, e2⟩ := loopMb (F := F) (iP := iP) (iA := iA) (hs := heads 0 R) (x0 := .v (LI (tm R))) (x1 := .v (LI rs)) (x2 := .v (.list (blkT 0 R))) (x4 := .v (LI (rs ++ flds R))) (x5 := y5) hP hA (ws := rs ++ flds R) (x6 := .un)
  rw [List.length_nil] at e1
  have hlc : lcopyD (LI rs) = .ok (LI rs) := rfl
  have hih : itemsD (LI (heads 0 R)) = .ok ((heads 0 R).map .int) := rfl
  have hiw : itemsD (LI (rs ++ flds R)) = .ok ((rs ++ flds R).map .int) := rfl
  have hcf : ∀ ρ : Rho, getV ρ 2 = .ok (.list (blkT 0 R)) → ev F ρ none (E.compIf (E.idx E.cv (E.int 0)) (E.not (E.idx E.cv (E.int 2))) (E.var 2)) = .ok (LI (heads 0 R)) := fun ρ hρ =>
    ev_compIfS (xs := blkT 0 R) (by rw [evI_var, hρ]; rfl) filt_heads
  unfold gMo
  generalize hb5 : gMoA = ga at *
  generalize hb6 : gMoB iP iA = gb at *
  generalize LI (heads 0 R) = lh at *
  generalize LI (rs ++ flds R) = lw at *
  generalize (heads 0 R).map PyData.int = hh at *
  generalize (rs ++ flds R).map PyData.int = ww at *
  generalize LI (tm R) = lm at *
  generalize LI rs = lr at *
  refine (step (by simp [hB]; rfl)).trans ?_
  refine (step ((stepF (by simp [isCD])).trans evSs_nil)).trans ?_
  refine (step (by rw [evS_assign, hcf _ rfl]; rfl)).trans ?_
  refine (step (by simp [hlc]; rfl)).trans ?_
  refine (step ((for_of (t := fun d ρ => evSs F ga (ρ.set 5 (.v d))) (xs := hh) (by simp [hih]) fun _ _ => rfl).trans e1)).trans ?_
  have hf := (for_of (F := F) (ρ := [.v lm, .v lr, .v (.list (blkT 0 R)), .v lh, .v lw, y5, .un]) (x := 6) (src := E.var 4) (b := gb) (t := fun d ρ => evSs F gb (ρ.set 6 (.v d))) (xs := ww) (by simp [hiw]) fun _ _ => rfl).trans e2
  cases hall : (rs ++ flds R).all (wOk (heads 0 R)) with
  | true =>
    rw [hall] at hf
    refine (step hf).trans ?_
    exact stepR (by simp)
  | false =>
    rw [hall] at hf
    exact stepR hf
theorem g_memok_none {iB iP iA : Nat} {m r : PyData} (hB : F.fn iB [m] = .ok .none) : bodyR (fnR F 7 [0, 1] (gMo iB iP iA) [m, r]) = .ok (.bool false) := by
  rw [fnR_of (ρ := [.v m, .v r, .un, .un, .un, .un, .un]) rfl]
  refine (congrArg bodyR (a₂ := .ret (.bool false)) ?_).trans rfl
  unfold gMo
  refine (step (by simp [hB]; rfl)).trans ?_
  refine stepR ((stepT (by simp [isCD])).trans (stepR ?_))
  simp
end
end Mine

-- G5
namespace Mine
open PySem

abbrev Hp := List (Int × List V)
noncomputable def keys (H : Hp) : List Int := H.map (·.1)
noncomputable def hrow (H : Hp) (k : Int) : List V := (H.lookup k).getD []
@[simp] theorem keys_nil : keys [] = [] := rfl
@[simp] theorem keys_cons {k : Int} {r : List V} {H : Hp} : keys ((k, r) :: H) = k :: keys H := rfl
noncomputable def encP (pl : Int → Nat) (v : V) : Int := if v.1 = 1 then 2 * (pl v.2 : Int) + 1 else 2 * v.2
theorem encP_ptr {pl : Int → Nat} {v : V} : encP pl v % 2 = 1 ↔ v.1 = 1 := by
  unfold encP
  by_cases h : v.1 = 1
  · rw [if_pos h]
    exact ⟨fun _ => h, fun _ => by omega⟩
  · rw [if_neg h]
    exact ⟨fun z => by omega, fun z => absurd z h⟩
theorem encP_addr {pl : Int → Nat} {v : V} (h : v.1 = 1) : encP pl v / 2 = (pl v.2 : Nat) := by
  unfold encP
  rw [if_pos h]; omega

noncomputable def vis (C : List Int) (v : V) : List Int := if v.1 = 1 ∧ v.2 ∉ C then C ++ [v.2] else C
theorem vis_ext {C : List Int} {v : V} : ∃ D, vis C v = C ++ D := by
  unfold vis
  split
  · exact ⟨_, rfl⟩
  · exact ⟨[], by simp⟩
theorem fold_ext : ∀ {vs : List V} {C : List Int}, ∃ D, vs.foldl vis C = C ++ D
  | [], C => ⟨[], by simp⟩
  | v :: vs, C => by
    obtain ⟨D, h⟩ := vis_ext (C := C) (v := v)
    obtain ⟨D', h'⟩ := fold_ext (vs := vs) (C := vis C v)
    exact ⟨D ++ D', by rw [List.foldl_cons, h', h, List.append_assoc]⟩
theorem mem_vis {C : List Int} {v : V} (h : v.1 = 1) : v.2 ∈ vis C v := by
  unfold vis
  by_cases q : v.2 ∈ C
  · simp [q]
  · simp [h, q]
theorem fold_mem : ∀ {vs : List V} {C : List Int} {v : V}, v ∈ vs → v.1 = 1 → v.2 ∈ vs.foldl vis C
  | u :: vs, C, v, h, h1 => by
    rw [List.foldl_cons]
    rcases List.mem_cons.mp h with q | q
    · subst q
      obtain ⟨D, hD⟩ := fold_ext (vs := vs) (C := vis C v)
      rw [hD]
      exact List.mem_append_left _ (mem_vis h1)
    · exact fold_mem q h1
noncomputable def scan (H : Hp) : Nat → Nat → List Int → List Int
  | 0, _, C => C
  | f + 1, m, C => match C[m]? with
    | some c => scan H f (m + 1) ((hrow H c).foldl vis C)
    | none => C
noncomputable def live (H : Hp) (vs : List V) : List Int := scan H (keys H).length 0 (vs.foldl vis [])
theorem sub_len : ∀ {C K : List Int}, C.Nodup → (∀ k ∈ C, k ∈ K) → C.length ≤ K.length
  | [], K, _, _ => by simp
  | c :: C, K, hn, hs => by
    obtain ⟨h1, h2⟩ := List.nodup_cons.mp hn
    have hc := hs c (.head _)
    have := sub_len (C := C) (K := K.erase c) h2 fun k hk => by
      have hne : k ≠ c := by rintro rfl; exact h1 hk
      exact (List.mem_erase_of_ne hne).mpr (hs k (.tail _ hk))
    rw [List.length_erase_of_mem hc] at this
    have : 0 < K.length := List.length_pos_of_mem hc
    simp only [List.length_cons]
    omega
theorem fold_ok {K : List Int} : ∀ {L : List V} {C : List Int}, C.Nodup → (∀ k ∈ C, k ∈ K) → (∀ v ∈ L, v.1 = 1 → v.2 ∈ K) → (L.foldl vis C).Nodup ∧ ∀ k ∈ L.foldl vis C, k ∈ K
  | [], C, h1, h2, _ => ⟨h1, h2⟩
  | v :: L, C, h1, h2, h3 => by
    rw [List.foldl_cons]
    refine fold_ok ?_ ?_ fun u hu => h3 u (.tail _ hu)
    · unfold vis
      split
      · rename_i q
        rw [List.nodup_append]
        refine ⟨h1, by simp, fun a ha b hb => ?_⟩
        simp only [List.mem_singleton] at hb
        subst hb
        rintro rfl; exact q.2 ha
      · exact h1
    · unfold vis
      split
      · rename_i q
        intro k hk
        rcases List.mem_append.mp hk with hk | hk
        · exact h2 k hk
        · simp only [List.mem_singleton] at hk; subst hk; exact h3 v (.head _) q.1
      · exact h2
theorem scan_ok {H : Hp} (hHc : ∀ k ∈ keys H, ∀ v ∈ hrow H k, v.1 = 1 → v.2 ∈ keys H) : ∀ {f m : Nat} {C : List Int}, (keys H).length ≤ f + m → m ≤ C.length → C.Nodup → (∀ k ∈ C, k ∈ keys H) → (∀ k ∈ C.take m, ∀ v ∈ hrow H k, v.1 = 1 → v.2 ∈ C) →
    (scan H f m C).Nodup ∧ (∀ k ∈ scan H f m C, k ∈ keys H) ∧ (∀ k ∈ scan H f m C, ∀ v ∈ hrow H k, v.1 = 1 → v.2 ∈ scan H f m C) ∧ ∃ D, scan H f m C = C ++ D
  | 0, m, C, hf, hm, hn, hs, hc => by
    have hl := sub_len hn hs
    have : C.take m = C := List.take_of_length_le (by omega)
    rw [this] at hc
    exact ⟨hn, hs, hc, [], by simp [scan]⟩
  | f + 1, m, C, hf, hm, hn, hs, hc => by
    rw [scan]
    cases h : C[m]? with
    | none =>
      have hge := List.getElem?_eq_none_iff.mp h
      have : C.take m = C := List.take_of_length_le hge
      rw [this] at hc
      exact ⟨hn, hs, hc, [], by simp⟩
    | some c =>
      obtain ⟨hlt, hcm⟩ := List.getElem?_eq_some_iff.mp h
      have hck : c ∈ keys H := hs c (hcm ▸ List.getElem_mem hlt)
      obtain ⟨hn', hs'⟩ := fold_ok (K := keys H) hn hs (hHc c hck)
      obtain ⟨D, hD⟩ := fold_ext (vs := hrow H c) (C := C)
      have htake : ((hrow H c).foldl vis C).take (m + 1) = C.take m ++ [c] := by
        rw [hD, List.take_append_of_le_length (by omega), ← List.take_append_getElem hlt, hcm]
      have ih := scan_ok hHc (f := f) (m := m + 1) (C := (hrow H c).foldl vis C) (by omega) (by rw [hD, List.length_append]; omega) hn' hs' (by
        rw [htake]
        intro k hk v hv h1
        rcases List.mem_append.mp hk with q | q
        · rw [hD]; exact List.mem_append_left _ (hc k q v hv h1)
        · simp only [List.mem_singleton] at q
          subst q
          exact fold_mem hv h1)
      obtain ⟨a, b, c', D', e⟩ := ih
      exact ⟨a, b, c', D ++ D', e.trans (by rw [hD, List.append_assoc])⟩
theorem live_ok {H : Hp} {vs : List V} (hHc : ∀ k ∈ keys H, ∀ v ∈ hrow H k, v.1 = 1 → v.2 ∈ keys H) (hv : ∀ v ∈ vs, v.1 = 1 → v.2 ∈ keys H) :
    (live H vs).Nodup ∧ (∀ k ∈ live H vs, k ∈ keys H) ∧ (∀ k ∈ live H vs, ∀ v ∈ hrow H k, v.1 = 1 → v.2 ∈ live H vs) ∧ ∀ v ∈ vs, v.1 = 1 → v.2 ∈ live H vs := by
  obtain ⟨hn, hs⟩ := fold_ok (K := keys H) (L := vs) (C := []) List.nodup_nil (by simp) hv
  obtain ⟨a, b, c, D, e⟩ := scan_ok hHc (f := (keys H).length) (m := 0) (C := vs.foldl vis []) (by omega) (by omega) hn hs (by simp)
  refine ⟨a, b, c, fun v hv' h1 => ?_⟩
  show v.2 ∈ scan H (keys H).length 0 (vs.foldl vis [])
  rw [e]
  exact List.mem_append_left _ (fold_mem hv' h1)

noncomputable def pls (pl : Int → Nat) (C : List Int) : List Int := C.map fun k => (pl k : Int)
theorem mem_pls {pl : Int → Nat} {K C : List Int} {k : Int} (inj : ∀ k ∈ K, ∀ k' ∈ K, pl k = pl k' → k = k') (hC : ∀ c ∈ C, c ∈ K) (hk : k ∈ K) : ((pl k : Nat) : Int) ∈ pls pl C ↔ k ∈ C := by
  unfold pls
  rw [List.mem_map]
  constructor
  · rintro ⟨c, hc, e⟩
    have := inj c (hC c hc) k hk (by omega)
    rw [← this]; exact hc
  · intro h
    exact ⟨k, h, rfl⟩
section
variable {F : FT} {iP iA iF : Nat} {H : Hp} {pl : Int → Nat}
noncomputable def gReL (iP iA : Nat) : List S := [S.ife (E.bop true (E.call iP [(E.var 3)]) (E.cmp .notin (E.call iA [(E.var 3)]) (E.own 2))) [S.append 2 (E.call iA [(E.var 3)])] []]
noncomputable def gReW (iP iA iF : Nat) : List S := [S.for1 3 (E.call iF [(E.var 0), (E.idx (E.own 2) (E.var 4))]) (gReL iP iA), S.assign 4 (E.bin .add (E.var 4) (E.int 1))]
noncomputable def gRe (iP iA iF : Nat) : List S := [S.assignO 2 (E.lst []), S.for1 3 (E.var 1) (gReL iP iA), S.assign 4 (E.int 0), S.whil (E.cmp .lt (E.var 4) (E.len (E.own 2))) (gReW iP iA iF), S.ret (E.own 2)]
noncomputable def TR (F : FT) (iP iA : Nat) (d : PyData) (ρ : Rho) : Out := evSs F (gReL iP iA) (ρ.set 3 (.v d))
theorem turnR {x0 x1 x3 x4 : VA} {w : Int} {met : List Int} (h1 : F.fn iP [.int w] = .ok (.bool (decide (w % 2 = 1)))) (h2 : F.fn iA [.int w] = .ok (.int (w / 2))) (hl : met.length ≤ 1000) :
    TR F iP iA (.int w) [x0, x1, .own (met.map .int), x3, x4] = .next [x0, x1, .own ((if w % 2 = 1 ∧ w / 2 ∉ met then met ++ [w / 2] else met).map .int), .v (.int w), x4] := by
  have h3 := cmp_notin (k := w / 2) (C := met)
  unfold LI at h3
  have hl' : (met.map PyData.int).length < 1048576 := by simp; omega
  unfold TR gReL
  by_cases q : w % 2 = 1
  · by_cases q2 : w / 2 ∈ met
    · rw [if_neg (fun z => z.2 q2)]
      generalize met.map PyData.int = mm at *
      refine (step ((stepF (by simp [h1, h2, h3, q, q2])).trans evSs_nil)).trans ?_
      rfl
    · rw [if_pos ⟨q, q2⟩, List.map_append]
      generalize met.map PyData.int = mm at *
      refine (step ((stepT (by simp [h1, h2, h3, q, q2])).trans ((step (by simp [h2, hl']; rfl)).trans evSs_nil))).trans ?_
      rfl
  · rw [if_neg (fun z => q z.1)]
    generalize met.map PyData.int = mm at *
    refine (step ((stepF (by simp [h1, q])).trans evSs_nil)).trans ?_
    rfl
theorem loopR {x0 x1 x4 : VA} (hP : ∀ w : Int, F.fn iP [.int w] = .ok (.bool (decide (w % 2 = 1)))) (hA : ∀ w : Int, F.fn iA [.int w] = .ok (.int (w / 2))) (inj : ∀ k ∈ keys H, ∀ k' ∈ keys H, pl k = pl k' → k = k') (hk : (keys H).length ≤ 1000) : ∀ {vs : List V} {C : List Int} {x3 : VA}, C.Nodup → (∀ k ∈ C, k ∈ keys H) → (∀ v ∈ vs, v.1 = 1 → v.2 ∈ keys H) →
    ∃ y3, forL (TR F iP iA) (vs.map fun v => .int (encP pl v)) [x0, x1, .own ((pls pl C).map .int), x3, x4] = .next [x0, x1, .own ((pls pl (vs.foldl vis C)).map .int), y3, x4]
  | [], C, x3, _, _, _ => ⟨x3, rfl⟩
  | v :: vs, C, x3, hn, hs, hv => by
    have hF := fold_ok (K := keys H) (L := [v]) hn hs (fun u hu => by
      simp only [List.mem_singleton] at hu
      subst hu
      exact hv u (.head _))
    rw [List.foldl_cons, List.foldl_nil] at hF
    obtain ⟨y3, ih⟩ := loopR (x0 := x0) (x1 := x1) (x4 := x4) hP hA inj hk (vs := vs) (C := vis C v) (x3 := .v (.int (encP pl v))) hF.1 hF.2 fun u hu => hv u (.tail _ hu)
    refine ⟨y3, ?_⟩
    have hle := sub_len hn hs
    rw [List.map_cons, forL, turnR (hP _) (hA _) (by simp [pls]; omega), List.foldl_cons]
    have e : (if encP pl v % 2 = 1 ∧ encP pl v / 2 ∉ pls pl C then pls pl C ++ [encP pl v / 2] else pls pl C) = pls pl (vis C v) := by
      unfold vis
      by_cases q : v.1 = 1
      · have hkk := hv v (.head _) q
        rw [encP_addr q]
        by_cases z : v.2 ∈ C
        · have := (mem_pls inj hs hkk).mpr z
          rw [if_neg (fun y => y.2 this), if_neg (fun y => y.2 z)]
        · have : ((pl v.2 : Nat) : Int) ∉ pls pl C := fun y => z ((mem_pls inj hs hkk).mp y)
          rw [if_pos ⟨encP_ptr.mpr q, this⟩, if_pos ⟨q, z⟩]
          simp [pls]
      · rw [if_neg (fun y => q (encP_ptr.mp y.1)), if_neg (fun y => q y.1)]
    rw [e]
    exact ih
theorem wloopR {mem : PyData} {x1 : VA} (hP : ∀ w : Int, F.fn iP [.int w] = .ok (.bool (decide (w % 2 = 1)))) (hA : ∀ w : Int, F.fn iA [.int w] = .ok (.int (w / 2))) (inj : ∀ k ∈ keys H, ∀ k' ∈ keys H, pl k = pl k' → k = k') (hk : (keys H).length ≤ 1000) (hHc : ∀ k ∈ keys H, ∀ v ∈ hrow H k, v.1 = 1 → v.2 ∈ keys H)
    (hrow' : ∀ k ∈ keys H, F.fn iF [mem, .int (pl k : Nat)] = .ok (LI ((hrow H k).map (encP pl)))) : ∀ {f m : Nat} {C : List Int} {x3 : VA}, (keys H).length ≤ f + m → m ≤ C.length → C.Nodup → (∀ k ∈ C, k ∈ keys H) →
    ∃ y3 m', ∀ g, whl (fun ρ => ev F ρ none (E.cmp .lt (E.var 4) (E.len (E.own 2)))) (fun ρ => evSs F (gReW iP iA iF) ρ) (f + 1 + g) [.v mem, x1, .own ((pls pl C).map .int), x3, .v (.int (m : Nat))] = .next [.v mem, x1, .own ((pls pl (scan H f m C)).map .int), y3, .v (.int (m' : Nat))] := by
  intro f
  induction f with
  | zero =>
    intro m C x3 hf hm hn hs
    have hle := sub_len hn hs
    refine ⟨x3, m, fun g => ?_⟩
    have h : ¬ ((m : Int) < (C.length : Int)) := by omega
    rw [show 0 + 1 + g = g + 1 by omega, whl]
    have e : ev F [.v mem, x1, .own ((pls pl C).map .int), x3, .v (.int (m : Nat))] none (E.cmp .lt (E.var 4) (E.len (E.own 2))) = .ok (.bool false) := by
      simp [pls, h]
    rw [e]
    rfl
  | succ f ih =>
    intro m C x3 hf hm hn hs
    cases h : C[m]? with
    | none =>
      have hge := List.getElem?_eq_none_iff.mp h
      refine ⟨x3, m, fun g => ?_⟩
      have h' : ¬ ((m : Int) < (C.length : Int)) := by omega
      rw [show f + 1 + 1 + g = (f + 1 + g) + 1 by omega, whl, scan, h]
      have e : ev F [.v mem, x1, .own ((pls pl C).map .int), x3, .v (.int (m : Nat))] none (E.cmp .lt (E.var 4) (E.len (E.own 2))) = .ok (.bool false) := by
        simp [pls, h']
      rw [e]
    | some c =>
      obtain ⟨hlt, hcm⟩ := List.getElem?_eq_some_iff.mp h
      have hck : c ∈ keys H := hs c (hcm ▸ List.getElem_mem hlt)
      obtain ⟨hn', hs'⟩ := fold_ok (K := keys H) hn hs (hHc c hck)
      obtain ⟨D, hD⟩ := fold_ext (vs := hrow H c) (C := C)
      obtain ⟨y3, e1⟩ := loopR (F := F) (x0 := .v mem) (x1 := x1) (x4 := .v (.int (m : Nat))) hP hA inj hk (vs := hrow H c) (C := C) (x3 := x3) hn hs (hHc c hck)
      obtain ⟨z3, m', e2⟩ := ih (m := m + 1) (C := (hrow H c).foldl vis C) (x3 := y3) (by omega) (by rw [hD, List.length_append]; omega) hn' hs'
      refine ⟨z3, m', fun g => ?_⟩
      have h' : ((m : Int) < (C.length : Int)) := by omega
      rw [show f + 1 + 1 + g = (f + 1 + g) + 1 by omega, whl, scan, h]
      have e : ev F [.v mem, x1, .own ((pls pl C).map .int), x3, .v (.int (m : Nat))] none (E.cmp .lt (E.var 4) (E.len (E.own 2))) = .ok (.bool true) := by
        simp [pls, h']
      rw [e]
      have hi : idxD (.list ((pls pl C).map .int)) (.int (m : Nat)) = .ok (.int (pl c : Nat)) := by
        refine idx_ints ?_
        unfold pls
        rw [List.getElem?_map, h]; rfl
      have hr := hrow' c hck
      have hit : itemsD (LI ((hrow H c).map (encP pl))) = .ok ((hrow H c).map fun v => .int (encP pl v)) := by
        unfold LI
        rw [itemsD_list, List.map_map]; rfl
      have eb : evSs F (gReW iP iA iF) [.v mem, x1, .own ((pls pl C).map .int), x3, .v (.int (m : Nat))] = .next [.v mem, x1, .own ((pls pl ((hrow H c).foldl vis C)).map .int), y3, .v (.int ((m + 1 : Nat) : Int))] := by
        unfold gReW
        generalize (pls pl C).map PyData.int = pc at *
        generalize (pls pl ((hrow H c).foldl vis C)).map PyData.int = pc' at *
        generalize LI ((hrow H c).map (encP pl)) = lr at *
        generalize hgb : gReL iP iA = gb at *
        refine (step ((for_of (t := TR F iP iA) (xs := (hrow H c).map fun v => .int (encP pl v)) (by simp [hi, hr, hit]) fun _ _ => by rw [← hgb]; rfl).trans e1)).trans ?_
        refine (step (by simp; rfl)).trans ?_
        rfl
      simp only
      rw [eb]
      exact e2 g
theorem g_reach {mem : PyData} {vs : List V} (hP : ∀ w : Int, F.fn iP [.int w] = .ok (.bool (decide (w % 2 = 1)))) (hA : ∀ w : Int, F.fn iA [.int w] = .ok (.int (w / 2))) (inj : ∀ k ∈ keys H, ∀ k' ∈ keys H, pl k = pl k' → k = k') (hk : (keys H).length ≤ 1000) (hHc : ∀ k ∈ keys H, ∀ v ∈ hrow H k, v.1 = 1 → v.2 ∈ keys H)
    (hrow' : ∀ k ∈ keys H, F.fn iF [mem, .int (pl k : Nat)] = .ok (LI ((hrow H k).map (encP pl)))) (hv : ∀ v ∈ vs, v.1 = 1 → v.2 ∈ keys H) :
    bodyR (fnR F 5 [0, 1] (gRe iP iA iF) [mem, LI (vs.map (encP pl))]) = .ok (LI (pls pl (live H vs))) := by
  rw [fnR_of (ρ := [.v mem, .v (LI (vs.map (encP pl))), .un, .un, .un]) rfl]
  refine (congrArg bodyR (a₂ := .ret (LI (pls pl (live H vs)))) ?_).trans rfl
  obtain ⟨hn, hs⟩ := fold_ok (K := keys H) (L := vs) (C := []) List.nodup_nil (by simp) hv
  obtain ⟨y3, e1⟩ := loopR (F := F) (x0 := .v mem) (x1 := .v (LI (vs.map (encP pl)))) (x4 := .un) hP hA inj hk (vs := vs) (C := []) (x3 := .un) List.nodup_nil (by simp) hv
  obtain ⟨z3, m', e2⟩ := wloopR (F := F) (mem := mem) (x1 := .v (LI (vs.map (encP pl)))) hP hA inj hk hHc hrow' (f := (keys H).length) (m := 0) (C := vs.foldl vis []) (x3 := y3) (by omega) (by omega) hn hs
  have e2' := e2 (wFuel - ((keys H).length + 1))
  rw [show (keys H).length + 1 + (wFuel - ((keys H).length + 1)) = wFuel by unfold wFuel; omega] at e2'
  change whl _ _ wFuel _ = .next [_, _, .own ((pls pl (live H vs)).map .int), _, _] at e2'
  have hit : itemsD (LI (vs.map (encP pl))) = .ok (vs.map fun v => .int (encP pl v)) := by
    unfold LI
    rw [itemsD_list, List.map_map]; rfl
  have h0 : (pls pl []).map PyData.int = [] := rfl
  rw [h0] at e1
  unfold gRe
  have hout : LI (pls pl (live H vs)) = .list ((pls pl (live H vs)).map .int) := rfl
  rw [hout]
  generalize (pls pl (live H vs)).map PyData.int = out at *
  generalize (pls pl (vs.foldl vis [])).map PyData.int = p1 at *
  generalize LI (vs.map (encP pl)) = lr at *
  generalize hgb : gReL iP iA = gb at *
  generalize gReW iP iA iF = gw at *
  refine (step (by simp; rfl)).trans ?_
  refine (step ((for_of (t := TR F iP iA) (xs := vs.map fun v => .int (encP pl v)) (by simp [hit]) fun _ _ => by rw [← hgb]; rfl).trans e1)).trans ?_
  refine (step (by simp; rfl)).trans ?_
  refine (step (evS_whil.trans e2')).trans ?_
  exact stepR (by simp)
end
end Mine

-- G6
namespace Mine
open PySem
section
variable {F : FT} {iP iA iF iRe iPt : Nat} {H : Hp} {pl : Int → Nat}
noncomputable def gLwL : List S := [S.assign 2 (E.bin .add (E.bin .add (E.var 2) (E.idx (E.var 0) (E.var 3))) (E.int 1))]
noncomputable def gLw (iRe : Nat) : List S := [S.assign 2 (E.int 0), S.for1 3 (E.call iRe [(E.var 0), (E.var 1)]) gLwL, S.ret (E.var 2)]
theorem loopLw {mem : PyData} {x1 : VA} : ∀ {C : List Int} {n : Nat} {x3 : VA}, (∀ k ∈ C, idxD mem (.int (pl k : Nat)) = .ok (.int ((hrow H k).length : Nat))) →
    ∃ y3, forL (fun d ρ => evSs F gLwL (ρ.set 3 (.v d))) ((pls pl C).map .int) [.v mem, x1, .v (.int (n : Nat)), x3] = .next [.v mem, x1, .v (.int ((n + (C.map fun k => (hrow H k).length + 1).sum : Nat) : Int)), y3]
  | [], n, x3, _ => ⟨x3, rfl⟩
  | c :: C, n, x3, h => by
    obtain ⟨y3, ih⟩ := loopLw (mem := mem) (x1 := x1) (C := C) (n := n + ((hrow H c).length + 1)) (x3 := .v (.int (pl c : Nat))) fun k hk => h k (.tail _ hk)
    refine ⟨y3, ?_⟩
    have hi := h c (.head _)
    have e : evSs F gLwL ([VA.v mem, x1, .v (.int (n : Nat)), x3].set 3 (.v (.int (pl c : Nat)))) = .next [.v mem, x1, .v (.int ((n + ((hrow H c).length + 1) : Nat) : Int)), .v (.int (pl c : Nat))] := by
      unfold gLwL
      have : (n : Int) + ((hrow H c).length : Nat) + 1 = ((n + ((hrow H c).length + 1) : Nat) : Int) := by omega
      refine (step (by simp [hi]; rfl)).trans ?_
      rw [← this]
      rfl
    show forL _ (.int (pl c : Nat) :: (pls pl C).map .int) _ = _
    rw [forL, e]
    simp only
    rw [ih, List.map_cons, List.sum_cons, Nat.add_assoc]
theorem g_livew {mem r : PyData} {C : List Int} (hR : F.fn iRe [mem, r] = .ok (LI (pls pl C))) (hh : ∀ k ∈ C, idxD mem (.int (pl k : Nat)) = .ok (.int ((hrow H k).length : Nat))) :
    bodyR (fnR F 4 [0, 1] (gLw iRe) [mem, r]) = .ok (.int ((C.map fun k => (hrow H k).length + 1).sum : Nat)) := by
  rw [fnR_of (ρ := [.v mem, .v r, .un, .un]) rfl]
  refine (congrArg bodyR (a₂ := .ret (.int ((C.map fun k => (hrow H k).length + 1).sum : Nat))) ?_).trans rfl
  obtain ⟨y3, e⟩ := loopLw (F := F) (mem := mem) (x1 := .v r) (C := C) (n := 0) (x3 := .un) hh
  rw [Nat.zero_add] at e
  unfold gLw
  generalize hgb : gLwL = gb at *
  refine (step (by simp; rfl)).trans ?_
  refine (step ((for_of (t := fun d ρ => evSs F gb (ρ.set 3 (.v d))) (xs := (pls pl C).map .int) (by simp [hR, LI]) fun _ _ => rfl).trans e)).trans ?_
  exact stepR (by simp)

noncomputable def gShE (iP iA iPt : Nat) : E := E.ite (E.call iP [E.cv]) (E.call iPt [(E.idx (E.own 3) (E.call iA [E.cv]))]) E.cv
noncomputable def gShN : List S := [S.setItem 3 (E.idx (E.var 2) (E.var 4)) (E.var 4)]
noncomputable def gShR (iP iA iPt iF : Nat) : List S := [S.append 6 (E.comp (gShE iP iA iPt) (E.call iF [(E.var 0), (E.var 7)]))]
noncomputable def gSh (iRe iP iA iPt iF : Nat) : List S := [S.assign 2 (E.call iRe [(E.var 0), (E.var 1)]), S.assignO 3 (E.bin .mul (E.lst [(E.neg (E.int 1))]) (E.len (E.var 0))), S.for1 4 (E.range (E.len (E.var 2))) gShN, S.assign 5 (E.comp (gShE iP iA iPt) (E.var 1)), S.assignO 6 (E.lst []), S.for1 7 (E.var 2) (gShR iP iA iPt iF), S.frz 6, S.ret (E.tup [(E.var 5), (E.var 6)])]
noncomputable def rk (C : List Int) (k : Int) : Nat := C.idxOf k
theorem loopN {x0 x1 x5 x6 x7 : VA} {C : List Int} (hn : C.Nodup) (inj : ∀ k ∈ C, ∀ k' ∈ C, pl k = pl k' → k = k') {len : Nat} (hlt : ∀ k ∈ C, pl k < len) : ∀ {m i : Nat} {N : List Int} {x4 : VA}, i + m = C.length → N.length = len → (∀ j (h : j < C.length), j < i → N[pl C[j]]? = some (j : Int)) →
    ∃ (N' : List Int) (y4 : VA), forL (fun d ρ => evSs F gShN (ρ.set 4 (.v d))) (rng i m) [x0, x1, .v (LI (pls pl C)), .own (N.map .int), x4, x5, x6, x7] = .next [x0, x1, .v (LI (pls pl C)), .own (N'.map .int), y4, x5, x6, x7] ∧ (∀ j (h : j < C.length), N'[pl C[j]]? = some (j : Int))
  | 0, i, N, x4, h, hN, hi => ⟨N, x4, rfl, fun j hj => hi j hj (by omega)⟩
  | m + 1, i, N, x4, h, hN, hi => by
    have hic : i < C.length := by omega
    have hmem : C[i] ∈ C := List.getElem_mem hic
    have hl := hlt _ hmem
    obtain ⟨N', y4, e, h'⟩ := loopN (x0 := x0) (x1 := x1) (x5 := x5) (x6 := x6) (x7 := x7) hn inj hlt (m := m) (i := i + 1) (N := N.set (pl C[i]) (i : Int)) (x4 := .v (.int (i : Nat))) (by omega) (by rw [List.length_set]; exact hN) (fun j hj hji => by
      by_cases q : j = i
      · subst q
        rw [List.getElem?_set_self (by omega)]
      · have hne : pl C[i] ≠ pl C[j] := fun z => by
          have := inj _ hmem _ (List.getElem_mem hj) z
          have := (List.getElem_inj hn).mp this
          omega
        rw [List.getElem?_set_ne hne]
        exact hi j hj (by omega))
    refine ⟨N', y4, ?_, h'⟩
    rw [rng_succ, forL]
    have hix : idxD (LI (pls pl C)) (.int (i : Nat)) = .ok (.int (pl C[i] : Nat)) := by
      refine idx_LI ?_
      unfold pls
      rw [List.getElem?_map, List.getElem?_eq_getElem hic]; rfl
    have hs := set_ints (m := N) (i := pl C[i]) (x := (i : Int)) (by omega)
    have e1 : evSs F gShN ([x0, x1, .v (LI (pls pl C)), .own (N.map .int), x4, x5, x6, x7].set 4 (.v (.int (i : Nat)))) = .next [x0, x1, .v (LI (pls pl C)), .own ((N.set (pl C[i]) (i : Int)).map .int), .v (.int (i : Nat)), x5, x6, x7] := by
      unfold gShN
      generalize LI (pls pl C) = lp at *
      generalize (N.set (pl C[i]) (i : Int)).map PyData.int = n2 at *
      generalize N.map PyData.int = n1 at *
      refine (step (by simp [hix, hs]; rfl)).trans ?_
      rfl
    rw [e1]
    exact e
theorem shE {x0 x1 x2 x4 x5 x6 x7 : VA} {N C : List Int} {vs : List V} (hP : ∀ w : Int, F.fn iP [.int w] = .ok (.bool (decide (w % 2 = 1)))) (hA : ∀ w : Int, F.fn iA [.int w] = .ok (.int (w / 2))) (hPt : ∀ w : Int, F.fn iPt [.int w] = .ok (.int (2 * w + 1))) (hN : ∀ j (h : j < C.length), N[pl C[j]]? = some (j : Int)) (hv : ∀ v ∈ vs, v.1 = 1 → v.2 ∈ C) :
    mapR (fun x => ev F [x0, x1, x2, .own (N.map .int), x4, x5, x6, x7] (some x) (gShE iP iA iPt)) (vs.map fun v => .int (encP pl v)) = .ok (vs.map fun v => .int (encP (rk C) v)) :=
  mapR_map fun v hv' => by
    have h1 := hP (encP pl v)
    have h2 := hA (encP pl v)
    unfold gShE
    by_cases q : v.1 = 1
    · have hk := hv v hv' q
      rw [encP_addr q] at h2
      have hj : rk C v.2 < C.length := List.idxOf_lt_length_iff.mpr hk
      have hn := hN (rk C v.2) hj
      have hc : C[rk C v.2] = v.2 := List.getElem_idxOf hj
      rw [hc] at hn
      have hi : idxD (.list (N.map .int)) (.int (pl v.2 : Nat)) = .ok (.int (rk C v.2 : Nat)) := idx_ints hn
      have h3 := hPt (rk C v.2 : Nat)
      have h4 : encP (rk C) v = 2 * (rk C v.2 : Int) + 1 := by simp [encP, q]
      have h5 : encP pl v % 2 = 1 := encP_ptr.mpr q
      rw [h4]
      generalize N.map PyData.int = nn at *
      generalize encP pl v = w at *
      simp [h1, h2, h5, hi, h3]
    · have h5 : ¬ encP pl v % 2 = 1 := fun z => q (encP_ptr.mp z)
      have h4 : encP (rk C) v = encP pl v := by simp [encP, q]
      rw [h4]
      generalize encP pl v = w at *
      simp [h1, h5]
theorem loopSh {mem : PyData} {x1 x2 x4 x5 : VA} {N C : List Int} (hP : ∀ w : Int, F.fn iP [.int w] = .ok (.bool (decide (w % 2 = 1)))) (hA : ∀ w : Int, F.fn iA [.int w] = .ok (.int (w / 2))) (hPt : ∀ w : Int, F.fn iPt [.int w] = .ok (.int (2 * w + 1))) (hN : ∀ j (h : j < C.length), N[pl C[j]]? = some (j : Int)) (hcl : ∀ k ∈ C, ∀ v ∈ hrow H k, v.1 = 1 → v.2 ∈ C)
    (hrow' : ∀ k ∈ C, F.fn iF [mem, .int (pl k : Nat)] = .ok (LI ((hrow H k).map (encP pl)))) : ∀ {D : List Int} {acc : List PyData} {x7 : VA}, (∀ k ∈ D, k ∈ C) → acc.length + D.length ≤ 1000 →
    ∃ y7, forL (fun d ρ => evSs F (gShR iP iA iPt iF) (ρ.set 7 (.v d))) ((pls pl D).map .int) [.v mem, x1, x2, .own (N.map .int), x4, x5, .own acc, x7] = .next [.v mem, x1, x2, .own (N.map .int), x4, x5, .own (acc ++ D.map fun k => LI ((hrow H k).map (encP (rk C)))), y7]
  | [], acc, x7, _, _ => ⟨x7, by simp [pls, forL]⟩
  | c :: D, acc, x7, hD, hl => by
    have hcC := hD c (.head _)
    obtain ⟨y7, ih⟩ := loopSh (x1 := x1) (x2 := x2) (x4 := x4) (x5 := x5) hP hA hPt hN hcl hrow' (D := D) (acc := acc ++ [LI ((hrow H c).map (encP (rk C)))]) (x7 := .v (.int (pl c : Nat))) (fun k hk => hD k (.tail _ hk)) (by simp at hl ⊢; omega)
    refine ⟨y7, ?_⟩
    have hr := hrow' c hcC
    have hE := shE (x0 := .v mem) (x1 := x1) (x2 := x2) (x4 := x4) (x5 := x5) (x6 := .own acc) (x7 := .v (.int (pl c : Nat))) hP hA hPt hN (hcl c hcC)
    have hit : itemsD (LI ((hrow H c).map (encP pl))) = .ok ((hrow H c).map fun v => .int (encP pl v)) := by
      unfold LI
      rw [itemsD_list, List.map_map]; rfl
    have hcomp : ev F [.v mem, x1, x2, .own (N.map .int), x4, x5, .own acc, .v (.int (pl c : Nat))] none (E.comp (gShE iP iA iPt) (E.call iF [(E.var 0), (E.var 7)])) = .ok (LI ((hrow H c).map (encP (rk C)))) := by
      rw [ev_compS (xs := (hrow H c).map fun v => .int (encP pl v)) (by simp [hr, hit]) hE]
      simp [LI]
    have e1 : evSs F (gShR iP iA iPt iF) ([VA.v mem, x1, x2, .own (N.map .int), x4, x5, .own acc, x7].set 7 (.v (.int (pl c : Nat)))) = .next [.v mem, x1, x2, .own (N.map .int), x4, x5, .own (acc ++ [LI ((hrow H c).map (encP (rk C)))]), .v (.int (pl c : Nat))] := by
      unfold gShR
      have hal : acc.length < 1048576 := by simp at hl; omega
      refine (step (by
        show evS F _ [.v mem, x1, x2, .own (N.map .int), x4, x5, .own acc, .v (.int (pl c : Nat))] = _
        rw [evS_append]
        simp only [List.getElem?_cons_succ, List.getElem?_cons_zero, hcomp, R.out_ok, hal, if_true, List.set_cons_succ, List.set_cons_zero]
        rfl)).trans ?_
      rfl
    show forL _ (.int (pl c : Nat) :: (pls pl D).map .int) _ = _
    rw [forL, e1]
    simp only
    rw [ih, List.append_assoc]
    rfl
theorem g_shape {m : List Int} {vs : List V} {C : List Int} (hP : ∀ w : Int, F.fn iP [.int w] = .ok (.bool (decide (w % 2 = 1)))) (hA : ∀ w : Int, F.fn iA [.int w] = .ok (.int (w / 2))) (hPt : ∀ w : Int, F.fn iPt [.int w] = .ok (.int (2 * w + 1)))
    (hR : F.fn iRe [LI m, LI (vs.map (encP pl))] = .ok (LI (pls pl C))) (hn : C.Nodup) (inj : ∀ k ∈ C, ∀ k' ∈ C, pl k = pl k' → k = k') (hlt : ∀ k ∈ C, pl k < m.length) (hcl : ∀ k ∈ C, ∀ v ∈ hrow H k, v.1 = 1 → v.2 ∈ C)
    (hrow' : ∀ k ∈ C, F.fn iF [LI m, .int (pl k : Nat)] = .ok (LI ((hrow H k).map (encP pl)))) (hv : ∀ v ∈ vs, v.1 = 1 → v.2 ∈ C) (hm : m.length ≤ 1000) (hC : C.length ≤ 1000) :
    bodyR (fnR F 8 [0, 1] (gSh iRe iP iA iPt iF) [LI m, LI (vs.map (encP pl))]) = .ok (.tuple [LI (vs.map (encP (rk C))), .list (C.map fun k => LI ((hrow H k).map (encP (rk C))))]) := by
  rw [fnR_of (ρ := [.v (LI m), .v (LI (vs.map (encP pl))), .un, .un, .un, .un, .un, .un]) rfl]
  refine (congrArg bodyR (a₂ := .ret (.tuple [LI (vs.map (encP (rk C))), .list (C.map fun k => LI ((hrow H k).map (encP (rk C))))])) ?_).trans rfl
  obtain ⟨N, y4, e1, hN⟩ := loopN (F := F) (x0 := .v (LI m)) (x1 := .v (LI (vs.map (encP pl)))) (x5 := .un) (x6 := .un) (x7 := .un) hn inj hlt (m := C.length) (i := 0) (N := List.replicate m.length (-1)) (x4 := .un) (by omega) (by simp) (fun j hj h0 => by omega)
  have hE := shE (x0 := .v (LI m)) (x1 := .v (LI (vs.map (encP pl)))) (x2 := .v (LI (pls pl C))) (x4 := y4) (x5 := .un) (x6 := .un) (x7 := .un) hP hA hPt hN hv
  obtain ⟨y7, e2⟩ := loopSh (F := F) (mem := LI m) (x1 := .v (LI (vs.map (encP pl)))) (x2 := .v (LI (pls pl C))) (x4 := y4) (x5 := .v (LI (vs.map (encP (rk C))))) hP hA hPt hN hcl hrow' (D := C) (acc := []) (x7 := .un) (fun k hk => hk) (by simpa using hC)
  rw [List.nil_append] at e2
  have hit : itemsD (LI (vs.map (encP pl))) = .ok (vs.map fun v => .int (encP pl v)) := by
    unfold LI
    rw [itemsD_list, List.map_map]; rfl
  have hip : itemsD (LI (pls pl C)) = .ok ((pls pl C).map .int) := rfl
  have hlp : lenD (LI (pls pl C)) = .ok (.int (C.length : Nat)) := by simp [pls]
  have hlm : lenD (LI m) = .ok (.int (m.length : Nat)) := by simp
  have hrg : rangeD (.int (C.length : Nat)) = .ok (rng 0 C.length) := by rw [rangeD_nat (by omega), range_rng]
  have hmul : binD .mul (.list [.int (-1)]) (.int (m.length : Nat)) = .ok (.list ((List.replicate m.length (-1 : Int)).map .int)) := by
    rw [bin_mulL (by omega)]; simp
  have hcomp : ev F [.v (LI m), .v (LI (vs.map (encP pl))), .v (LI (pls pl C)), .own (N.map .int), y4, .un, .un, .un] none (E.comp (gShE iP iA iPt) (E.var 1)) = .ok (LI (vs.map (encP (rk C)))) := by
    rw [ev_compS (xs := vs.map fun v => .int (encP pl v)) (by simp [hit]) hE]
    simp [LI]
  unfold gSh
  generalize (List.replicate m.length (-1 : Int)).map PyData.int = n0 at *
  generalize LI (vs.map (encP pl)) = lv at *
  generalize LI (vs.map (encP (rk C))) = lv2 at *
  generalize LI (pls pl C) = lp at *
  generalize (pls pl C).map PyData.int = lp2 at *
  generalize N.map PyData.int = n1 at *
  generalize LI m = lm at *
  generalize (C.map fun k => LI ((hrow H k).map (encP (rk C)))) = out at *
  generalize hgn : gShN = gn at *
  generalize hgr : gShR iP iA iPt iF = gr at *
  generalize gShE iP iA iPt = ge at *
  refine (step (by simp [hR]; rfl)).trans ?_
  refine (step (by simp [hlm, hmul]; rfl)).trans ?_
  refine (step ((for_of (t := fun d ρ => evSs F gn (ρ.set 4 (.v d))) (xs := rng 0 C.length) (by simp [hlp, hrg]) fun _ _ => rfl).trans e1)).trans ?_
  refine (step (by rw [evS_assign, hcomp]; rfl)).trans ?_
  refine (step (by simp; rfl)).trans ?_
  refine (step ((for_of (t := fun d ρ => evSs F gr (ρ.set 7 (.v d))) (xs := lp2) (by simp [hip]) fun _ _ => rfl).trans e2)).trans ?_
  refine (step (by simp; rfl)).trans ?_
  exact stepR (by simp)
end
end Mine

-- G7
namespace Mine
open PySem

/-! one step of the evaluator each, as terms -/
section
variable {F : FT} {ρ ρ' : Rho} {c : Option PyData} {l r e t s : E} {a b d x y z : PyData} {es : List E} {ds xs ys : List PyData} {i n : Nat} {rs sa sb : List S} {o : Out}
theorem cBin {p : BinO} (h1 : sm ρ l (ev F ρ c l) = .ok a) (h2 : sm ρ r (ev F ρ c r) = .ok b) (h : binD p a b = .ok d) : ev F ρ c (.bin p l r) = .ok d := by
  rw [ev_bin, h1, R.bind_ok, h2]; exact h
theorem cCmp {p : CmpO} (h1 : sm ρ l (ev F ρ c l) = .ok a) (h2 : sm ρ r (ev F ρ c r) = .ok b) (h : cmpD p a b = .ok d) : ev F ρ c (.cmp p l r) = .ok d := by
  rw [ev_cmp, h1, R.bind_ok, h2]; exact h
theorem cNeg (h1 : ev F ρ c e = .ok a) (h : negD a = .ok d) : ev F ρ c (.neg e) = .ok d := by rw [ev_neg, h1]; exact h
theorem cNot (h1 : ev F ρ c e = .ok (.bool q)) : ev F ρ c (.not e) = .ok (.bool (!q)) := by rw [ev_not, h1]; rfl
theorem cAbs {k : Int} (h1 : ev F ρ c e = .ok (.int k)) : ev F ρ c (.abs e) = .ok (.int (if k < 0 then -k else k)) := by rw [ev_abs, h1]; rfl
theorem cMin {j k : Int} (h1 : ev F ρ c l = .ok (.int j)) (h2 : ev F ρ c r = .ok (.int k)) : ev F ρ c (.min2 l r) = .ok (.int (if k < j then k else j)) := by rw [ev_min2, h1, R.bind_ok, h2]; rfl
theorem cLen (h1 : sm ρ e (ev F ρ c e) = .ok a) (h : lenD a = .ok d) : ev F ρ c (.len e) = .ok d := by rw [ev_len, h1]; exact h
theorem cMkd (h1 : sm ρ e (ev F ρ c e) = .ok a) (h : mkdictD a = .ok d) : ev F ρ c (.mkdict e) = .ok d := by rw [ev_mkdict, h1]; exact h
theorem cIdx (h1 : sm ρ l (ev F ρ c l) = .ok a) (h2 : ev F ρ c r = .ok b) (h : idxD a b = .ok d) : ev F ρ c (.idx l r) = .ok d := by
  rw [ev_idx, h1, R.bind_ok, h2]; exact h
theorem cSlTo (h1 : sm ρ l (ev F ρ c l) = .ok a) (h2 : ev F ρ c r = .ok b) (h : slToD a b = .ok d) : ev F ρ c (.slTo l r) = .ok d := by
  rw [ev_slTo, h1, R.bind_ok, h2]; exact h
theorem cSlFrom (h1 : sm ρ l (ev F ρ c l) = .ok a) (h2 : ev F ρ c r = .ok b) (h : slFromD a b = .ok d) : ev F ρ c (.slFrom l r) = .ok d := by
  rw [ev_slFrom, h1, R.bind_ok, h2]; exact h
theorem cIsC {p : Bool} (h1 : ev F ρ c l = .ok a) (h2 : ev F ρ c r = .ok b) (h : isCD p a b = .ok d) : ev F ρ c (.isC p l r) = .ok d := by
  rw [ev_isC, h1, R.bind_ok, h2]; exact h
theorem cIsT {p : Bool} {T : String} (h1 : ev F ρ c e = .ok a) (h : isTD p a T = .ok d) : ev F ρ c (.isT p e T) = .ok d := by
  rw [ev_isT, h1]; exact h
theorem cOrF {q : Bool} (h1 : ev F ρ c l = .ok (.bool false)) (h2 : ev F ρ c r = .ok (.bool q)) : ev F ρ c (.bop false l r) = .ok (.bool q) := by
  rw [ev_bop, h1, h2]; rfl
theorem cOrT (h1 : ev F ρ c l = .ok (.bool true)) : ev F ρ c (.bop false l r) = .ok (.bool true) := by rw [ev_bop, h1]; rfl
theorem cAndT {q : Bool} (h1 : ev F ρ c l = .ok (.bool true)) (h2 : ev F ρ c r = .ok (.bool q)) : ev F ρ c (.bop true l r) = .ok (.bool q) := by
  rw [ev_bop, h1, h2]; rfl
theorem cAndF (h1 : ev F ρ c l = .ok (.bool false)) : ev F ρ c (.bop true l r) = .ok (.bool false) := by rw [ev_bop, h1]; rfl
theorem cCall (h1 : evL F ρ c es = .ok ds) (h2 : F.fn n ds = .ok d) : ev F ρ c (.call n es) = .ok d := by rw [ev_call, h1]; exact h2
theorem lN : evL F ρ c [] = .ok [] := rfl
theorem lC (h1 : ev F ρ c e = .ok d) (h2 : evL F ρ c es = .ok ds) : evL F ρ c (e :: es) = .ok (d :: ds) := by
  show (ev F ρ c e).bind _ = _
  rw [h1, R.bind_ok, h2]; rfl
theorem c1 (h1 : ev F ρ c e = .ok a) (h2 : F.fn n [a] = .ok d) : ev F ρ c (.call n [e]) = .ok d := cCall (lC h1 lN) h2
theorem c2 (h1 : ev F ρ c l = .ok a) (h1' : ev F ρ c r = .ok b) (h2 : F.fn n [a, b] = .ok d) : ev F ρ c (.call n [l, r]) = .ok d := cCall (lC h1 (lC h1' lN)) h2
theorem cTup (h1 : evL F ρ c es = .ok ds) : ev F ρ c (.tup es) = .ok (.tuple ds) := by rw [ev_tup, h1]; rfl
theorem cLst (h1 : evL F ρ c es = .ok ds) : ev F ρ c (.lst es) = .ok (.list ds) := by rw [ev_lst, h1]; rfl
theorem cL1 (h1 : ev F ρ c e = .ok d) : ev F ρ c (.lst [e]) = .ok (.list [d]) := cLst (lC h1 lN)
theorem v (h : getV ρ i = .ok d) : ev F ρ c (.var i) = .ok d := h
theorem it (h : ev F ρ c (.var i) = .ok a) (h2 : itemsD a = .ok xs) : evI F ρ c (.var i) = .ok xs := by
  show (ev F ρ c (.var i)).bind itemsD = _
  rw [h]; exact h2
theorem itr (h : ev F ρ c e = .ok a) (h2 : rangeD a = .ok xs) : evI F ρ c (.range e) = .ok xs := by
  show (ev F ρ c e).bind rangeD = _
  rw [h]; exact h2

theorem sAsg (h : ev F ρ none e = .ok d) (k : evSs F rs (ρ.set i (.v d)) = o) : evSs F (.assign i e :: rs) ρ = o := by
  rw [evSs_cons, evS_assign, h]; exact k
theorem sNew (k : evSs F rs (ρ.set i (.own [])) = o) : evSs F (.assignO i (.lst []) :: rs) ρ = o := k
theorem kNo (h : ev F ρ none e = .ok (.bool false)) (k : evSs F rs ρ = o) : evSs F (.ife e sa [] :: rs) ρ = o := by
  rw [evSs_cons, stepF h]; exact k
theorem kYes (h : ev F ρ none e = .ok (.bool true)) (h2 : evSs F sa ρ = .next ρ') (k : evSs F rs ρ' = o) : evSs F (.ife e sa sb :: rs) ρ = o := by
  rw [evSs_cons, stepT h, h2]; exact k
theorem sFor (h : evI F ρ none e = .ok xs) (h2 : forL (fun d ρ => evSs F sa (ρ.set i (.v d))) xs ρ = .next ρ') (k : evSs F rs ρ' = o) : evSs F (.for1 i e sa :: rs) ρ = o := by
  rw [evSs_cons, evS_for1, h, R.out_ok, h2]; exact k
theorem sApp (h : ev F ρ none e = .ok d) (hx : ρ[i]? = some (.own ds)) (hl : ds.length < 1048576) (k : evSs F rs (ρ.set i (.own (ds ++ [d]))) = o) : evSs F (.append i e :: rs) ρ = o := by
  rw [evSs_cons, evS_append, hx]
  simp only [h, R.out_ok, if_pos hl]
  exact k
theorem sRet (h : sm ρ e (ev F ρ none e) = .ok d) : evSs F (.ret e :: rs) ρ = .ret d := by rw [evSs_cons, evS_ret, h]; rfl
theorem sTryN {k : Exk} {s : E} (h : evSs F sa ρ = .next ρ') (kk : evSs F rs ρ' = o) : evSs F (.tryc sa k i s :: rs) ρ = o := by
  rw [evSs_cons, evS_tryc, h]; exact kk
theorem sTryX {k : Exk} {s : E} (h : evSs F sa ρ = .exc k ρ) (h2 : ev F ρ none s = .ok d) (kk : evSs F rs (ρ.set i (.v d)) = o) : evSs F (.tryc sa k i s :: rs) ρ = o := by
  rw [evSs_cons, evS_tryc, h]
  have : exkOk k k = true := by cases k <;> rfl
  simp only [this, if_true, h2, R.out_ok]
  exact kk
end
end Mine

-- K1
namespace Mine.L1
open PySem Mine

noncomputable def Ft (k : Nat) : FT := FTn gls (fsUp tb.ff gls df k)
noncomputable def fn (k : Nat) : List PyData → R PyData := rdAt tb.ff gls df k
theorem Ft_fn {j k : Nat} (h : j < k) : (Ft k).fn j = fn j := fsUp_fn h
theorem fn0 (ds : List PyData) : fn 0 ds = bodyR (fnR (Ft 0) 2 [0, 1] b0 ds) := rfl
theorem fn1 (ds : List PyData) : fn 1 ds = bodyR (fnR (Ft 1) 8 [0, 1] b1 ds) := rfl
theorem fn2 (ds : List PyData) : fn 2 ds = bodyR (fnR (Ft 2) 2 [0, 1] b2 ds) := rfl
theorem fn3 (ds : List PyData) : fn 3 ds = bodyR (fnR (Ft 3) 1 [0] b3 ds) := rfl
theorem fn4 (ds : List PyData) : fn 4 ds = bodyR (fnR (Ft 4) 6 [0] b4 ds) := rfl
theorem fn5 (ds : List PyData) : fn 5 ds = bodyR (fnR (Ft 5) 7 [0, 1] b5 ds) := rfl
theorem fn6 (ds : List PyData) : fn 6 ds = bodyR (fnR (Ft 6) 8 [0, 1] b6 ds) := rfl
theorem fn7 (ds : List PyData) : fn 7 ds = bodyR (fnR (Ft 7) 1 [0] b7 ds) := rfl
theorem fn8 (ds : List PyData) : fn 8 ds = bodyR (fnR (Ft 8) 2 [0, 1] b8 ds) := rfl
theorem fn9 (ds : List PyData) : fn 9 ds = bodyR (fnR (Ft 9) 1 [0] b9 ds) := rfl
theorem fn10 (ds : List PyData) : fn 10 ds = bodyR (fnR (Ft 10) 1 [0] b10 ds) := rfl
theorem fn11 (ds : List PyData) : fn 11 ds = bodyR (fnR (Ft 11) 5 [0, 1] b11 ds) := rfl
theorem fn12 (ds : List PyData) : fn 12 ds = bodyR (fnR (Ft 12) 4 [0, 1] b12 ds) := rfl
theorem fn13 (ds : List PyData) : fn 13 ds = bodyR (fnR (Ft 13) 7 [0, 1] b13 ds) := rfl
theorem fn14 (ds : List PyData) : fn 14 ds = bodyR (fnR (Ft 14) 5 [0, 1, 2, 3] b14 ds) := rfl
theorem fn15 (ds : List PyData) : fn 15 ds = bodyR (fnR (Ft 15) 6 [0, 1, 2, 3] b15 ds) := rfl
theorem fn16 (ds : List PyData) : fn 16 ds = bodyR (fnR (Ft 16) 1 [0] b16 ds) := rfl
theorem fn17 (ds : List PyData) : fn 17 ds = bodyR (fnR (Ft 17) 3 [0] b17 ds) := rfl
theorem fn18 (ds : List PyData) : fn 18 ds = bodyR (fnR (Ft 18) 1 [0] b18 ds) := rfl
theorem fn19 (ds : List PyData) : fn 19 ds = bodyR (fnR (Ft 19) 8 [0, 1] b19 ds) := rfl
theorem fn20 (ds : List PyData) : fn 20 ds = bodyR (fnR (Ft 20) 1 [0] b20 ds) := rfl
theorem fn21 (ds : List PyData) : fn 21 ds = bodyR (fnR (Ft 21) 1 [0] b21 ds) := rfl
abbrev sTile : Str := Str.ofString "the memory is not tiled by blocks"
abbrev sNo : Str := Str.ofString "no free block of "
abbrev sWords : Str := Str.ofString " words"
abbrev sLeast : Str := Str.ofString "a memory holds at least one word"
theorem b3_eq : b3 = gFm sLeast := rfl
theorem b4_eq : b4 = gBlk := rfl
theorem b5_eq : b5 = gSw 4 := rfl
theorem b6_eq : b6 = gAl 4 sTile sNo sWords := rfl
theorem b8_eq : b8 = gFo := rfl
theorem b9_eq : b9 = gPtr := rfl
theorem b10_eq : b10 = gAddr := rfl
theorem b11_eq : b11 = gRe 9 10 8 := rfl
theorem b12_eq : b12 = gLw 11 := rfl
theorem b13_eq : b13 = gMo 4 9 10 := rfl
theorem b14_eq : b14 = gWf := rfl
theorem b16_eq : b16 = gOb 4 := rfl
theorem b17_eq : b17 = gFw 4 := rfl
theorem b18_eq : b18 = gPto := rfl
theorem b19_eq : b19 = gSh 11 9 10 18 8 := rfl
theorem b20_eq : b20 = gWon := rfl
theorem b21_eq : b21 = gAddr := rfl

theorem e_blocks {R : List RT} (ht : ∀ t ∈ R, Tk t) (hl : tsz R ≤ 1000) : fn 4 [LI (tm R)] = .ok (.list (blkT 0 R)) := by rw [fn4, b4_eq]; exact g_blocks ht hl
theorem e_blocks_bad {R : List RT} {h : Int} {c : List Int} (ht : ∀ t ∈ R, Tk t) (hl : tsz R + (c.length + 1) ≤ 1000) (hgt : (c.length : Int) + 1 < nOf h) : fn 4 [LI (tm R ++ h :: c)] = .ok .none := by rw [fn4, b4_eq]; exact g_blocks_bad ht hl hgt
theorem e_ptr (w : Int) : fn 9 [.int w] = .ok (.bool (decide (w % 2 = 1))) := by rw [fn9, b9_eq]; exact g_ptr
theorem e_addr (w : Int) : fn 10 [.int w] = .ok (.int (w / 2)) := by rw [fn10, b10_eq]; exact g_addr
theorem e_pto (w : Int) : fn 18 [.int w] = .ok (.int (2 * w + 1)) := by rw [fn18, b18_eq]; exact g_pto
theorem e_won (w : Int) : fn 20 [.int w] = .ok (.int (2 * w)) := by rw [fn20, b20_eq]; exact g_won
theorem e_num (w : Int) : fn 21 [.int w] = .ok (.int (w / 2)) := by rw [fn21, b21_eq]; exact g_addr
theorem e_fm {n : Nat} (h : n ≤ 1000) : fn 3 [.int ((n : Int) + 1)] = .ok (LI (tm [tF n])) := by rw [fn3, b3_eq]; exact g_fm h
theorem e_fm0 {n : Int} (h : n < 1) : fn 3 [.int n] = .exc .value := by rw [fn3, b3_eq]; exact g_fm0 h
theorem e_swept {R : List RT} {M : List Int} (ht : ∀ t ∈ R, Tk t) (hl : tsz R ≤ 1000) : fn 5 [LI (tm R), LI M] = .ok (LI (tm (swp M 0 [] none R))) := by
  rw [fn5, b5_eq]; exact g_swept (by rw [Ft_fn (by omega)]; exact e_blocks ht hl) hl
theorem len_no : sNo.length = 17 := by decide +kernel
theorem len_words : sWords.length = 6 := by decide +kernel
theorem e_alloc {pre post : List RT} {n : Nat} {fs : List Int} (ht : ∀ t ∈ pre ++ tF n :: post, Tk t) (hf : fs.length ≤ n) (hpre : ∀ t ∈ pre, noFit fs.length t) (hl : tsz pre + (n + 1) + tsz post ≤ 1000) :
    fn 6 [LI (tm (pre ++ tF n :: post)), LI fs] = .ok (.tuple [LI (tm (pre ++ tO fs :: (frem n fs.length ++ post))), .int (tsz pre : Nat)]) := by
  rw [fn6, b6_eq]; exact g_alloc (by rw [Ft_fn (by omega)]; exact e_blocks ht (by simp [tF]; omega)) hf hpre hl
theorem e_alloc_oom {R : List RT} {fs : List Int} (ht : ∀ t ∈ R, Tk t) (hl : tsz R ≤ 1000) (hR : ∀ t ∈ R, noFit fs.length t) (hfs : fs.length ≤ 4) : fn 6 [LI (tm R), LI fs] = .exc .oom := by
  rw [fn6, b6_eq]; exact g_alloc_oom (by rw [Ft_fn (by omega)]; exact e_blocks ht hl) hR hfs (by rw [len_no]; omega) (by rw [len_words]; omega)
theorem e_alloc_val {m fs : List Int} (hB : fn 4 [LI m] = .ok .none) : fn 6 [LI m, LI fs] = .exc .value := by
  rw [fn6, b6_eq]; exact g_alloc_val (by rw [Ft_fn (by omega)]; exact hB)
theorem e_fields {p r q : List Int} {a : Nat} (ha : p.length = a) : fn 8 [LI (p ++ ((r.length : Int) :: (r ++ q))), .int (a : Nat)] = .ok (LI r) := by rw [fn8, b8_eq]; exact g_fields ha
theorem e_with {m : List Int} {a i : Nat} {w : Int} (h : a + 1 + i < m.length) : fn 14 [LI m, .int (a : Nat), .int (i : Nat), .int w] = .ok (LI (m.set (a + 1 + i) w)) := by rw [fn14, b14_eq]; exact g_with h
theorem e_objects {R : List RT} (ht : ∀ t ∈ R, Tk t) (hl : tsz R ≤ 1000) : fn 16 [LI (tm R)] = .ok (LI (heads 0 R)) := by rw [fn16, b16_eq]; exact g_objects (by rw [Ft_fn (by omega)]; exact e_blocks ht hl)
theorem e_freew {R : List RT} (ht : ∀ t ∈ R, Tk t) (hl : tsz R ≤ 1000) : fn 17 [LI (tm R)] = .ok (.int (frw R : Nat)) := by rw [fn17, b17_eq]; exact g_freew (by rw [Ft_fn (by omega)]; exact e_blocks ht hl)
theorem e_memok {R : List RT} {rs : List Int} (ht : ∀ t ∈ R, Tk t) (hl : tsz R ≤ 1000) (hr : rs.length ≤ 1000) : fn 13 [LI (tm R), LI rs] = .ok (.bool ((rs ++ flds R).all (wOk (heads 0 R)))) := by
  rw [fn13, b13_eq]; exact g_memok (fun w => by rw [Ft_fn (by omega)]; exact e_ptr w) (fun w => by rw [Ft_fn (by omega)]; exact e_addr w) (by rw [Ft_fn (by omega)]; exact e_blocks ht hl) ht hl hr
theorem e_memok_none {m : List Int} {r : PyData} (hB : fn 4 [LI m] = .ok .none) : fn 13 [LI m, r] = .ok (.bool false) := by
  rw [fn13, b13_eq]; exact g_memok_none (by rw [Ft_fn (by omega)]; exact hB)
section
variable {H : Hp} {pl : Int → Nat} {mem : List Int} {vs : List V}
theorem e_reach (inj : ∀ k ∈ keys H, ∀ k' ∈ keys H, pl k = pl k' → k = k') (hk : (keys H).length ≤ 1000) (hHc : ∀ k ∈ keys H, ∀ v ∈ hrow H k, v.1 = 1 → v.2 ∈ keys H)
    (hrow' : ∀ k ∈ keys H, fn 8 [LI mem, .int (pl k : Nat)] = .ok (LI ((hrow H k).map (encP pl)))) (hv : ∀ v ∈ vs, v.1 = 1 → v.2 ∈ keys H) : fn 11 [LI mem, LI (vs.map (encP pl))] = .ok (LI (pls pl (live H vs))) := by
  rw [fn11, b11_eq]; exact g_reach (fun w => by rw [Ft_fn (by omega)]; exact e_ptr w) (fun w => by rw [Ft_fn (by omega)]; exact e_addr w) inj hk hHc (fun k hk => by rw [Ft_fn (by omega)]; exact hrow' k hk) hv
theorem e_livew {r : PyData} {C : List Int} (hR : fn 11 [LI mem, r] = .ok (LI (pls pl C))) (hh : ∀ k ∈ C, mem[pl k]? = some ((hrow H k).length : Int)) : fn 12 [LI mem, r] = .ok (.int ((C.map fun k => (hrow H k).length + 1).sum : Nat)) := by
  rw [fn12, b12_eq]; exact g_livew (by rw [Ft_fn (by omega)]; exact hR) fun k hk => idx_LI (hh k hk)
theorem e_shape {C : List Int} (hR : fn 11 [LI mem, LI (vs.map (encP pl))] = .ok (LI (pls pl C))) (hn : C.Nodup) (inj : ∀ k ∈ C, ∀ k' ∈ C, pl k = pl k' → k = k') (hlt : ∀ k ∈ C, pl k < mem.length) (hcl : ∀ k ∈ C, ∀ v ∈ hrow H k, v.1 = 1 → v.2 ∈ C)
    (hrow' : ∀ k ∈ C, fn 8 [LI mem, .int (pl k : Nat)] = .ok (LI ((hrow H k).map (encP pl)))) (hv : ∀ v ∈ vs, v.1 = 1 → v.2 ∈ C) (hm : mem.length ≤ 1000) (hC : C.length ≤ 1000) :
    fn 19 [LI mem, LI (vs.map (encP pl))] = .ok (.tuple [LI (vs.map (encP (rk C))), .list (C.map fun k => LI ((hrow H k).map (encP (rk C))))]) := by
  rw [fn19, b19_eq]; exact g_shape (fun w => by rw [Ft_fn (by omega)]; exact e_ptr w) (fun w => by rw [Ft_fn (by omega)]; exact e_addr w) (fun w => by rw [Ft_fn (by omega)]; exact e_pto w) (by rw [Ft_fn (by omega)]; exact hR) hn inj hlt hcl (fun k hk => by rw [Ft_fn (by omega)]; exact hrow' k hk) hv hm hC
end
end Mine.L1

-- K2
namespace Mine.L1
open PySem Mine

noncomputable def ab (y : Int) : Int := if y < 0 then -y else y
theorem ab_nonneg {y : Int} : 0 ≤ ab y := by unfold ab; split <;> omega
noncomputable def mn (met : Nat) : Int := if (4 : Int) < (met : Int) + 1 then 4 else (met : Int) + 1
noncomputable def wd (c : Int) (met : Nat) : Int := if c % 4 = 0 then 2 * ab c else 2 * (c / 4 % mn met) + 1
theorem mn_pos {met : Nat} : 0 < mn met ∧ mn met ≤ 4 ∧ mn met ≤ (met : Int) + 1 := by unfold mn; split <;> omega
theorem e_word {c : Int} {met : Nat} : fn 0 [.int c, .int (met : Nat)] = .ok (.int (wd c met)) := by
  rw [fn0, fnR_of (ρ := [.v (.int c), .v (.int (met : Nat))]) rfl]
  have hb : b0 = [S.ife (E.cmp .eq (E.bin .mod (E.var 0) (E.int 4)) (E.int 0)) [S.ret (E.bin .mul (E.int 2) (E.abs (E.var 0)))] [], S.ret (E.bin .add (E.bin .mul (E.int 2) (E.bin .mod (E.bin .fdiv (E.var 0) (E.int 4)) (E.min2 (E.bin .add (E.var 1) (E.int 1)) (E.int 4)))) (E.int 1))] := rfl
  rw [hb]
  refine (congrArg bodyR (a₂ := .ret (.int (wd c met))) ?_).trans rfl
  unfold wd
  have ea : absD (.int c) = .ok (.int (ab c)) := rfl
  have em : min2D (.int ((met : Int) + 1)) (.int 4) = .ok (.int (mn met)) := rfl
  have ed : binD .fdiv (.int c) (.int 4) = .ok (.int (c / 4)) := rfl
  have hp := mn_pos (met := met)
  have eM : binD .mod (.int (c / 4)) (.int (mn met)) = .ok (.int (c / 4 % mn met)) := bin_mod (by omega)
  by_cases q : c % 4 = 0
  · rw [if_pos q]
    exact stepR ((stepT (by simp [q])).trans (stepR (by simp [ea])))
  · rw [if_neg q]
    refine (step ((stepF (by simp [q])).trans evSs_nil)).trans ?_
    exact stepR (by simp [em, ed, eM])
noncomputable def isJ (j : Option Nat) (met : Nat) : Bool := match j with | some k => decide (k < met) | none => true
noncomputable def bump (j : Option Nat) (met : Nat) (w : Int) : Nat := if isJ j met = true ∧ w = 2 * (met : Int) + 1 then met + 1 else met
noncomputable def goW (j : Option Nat) : List Int → Nat → List Int × Nat
  | [], met => ([], met)
  | c :: cs, met => (wd c met :: (goW j cs (bump j met (wd c met))).1, (goW j cs (bump j met (wd c met))).2)
theorem goW_len {j : Option Nat} : ∀ {cs : List Int} {met : Nat}, (goW j cs met).1.length = cs.length
  | [], _ => rfl
  | c :: cs, met => by simp [goW, goW_len]
theorem wd_odd {c : Int} {met : Nat} (h : wd c met % 2 = 1) : 0 ≤ wd c met / 2 ∧ wd c met / 2 < 4 ∧ wd c met / 2 ≤ met := by
  unfold wd at h ⊢
  have hp := mn_pos (met := met)
  by_cases q : c % 4 = 0
  · rw [if_pos q] at h; omega
  · rw [if_neg q]
    have h1 := Int.emod_lt_of_pos (c / 4) hp.1
    have h2 := Int.emod_nonneg (c / 4) (show mn met ≠ 0 by omega)
    omega
theorem wd_nonneg {c : Int} {met : Nat} : 0 ≤ wd c met := by
  unfold wd
  have hp := mn_pos (met := met)
  have := ab_nonneg (y := c)
  split
  · omega
  · have h2 := Int.emod_nonneg (c / 4) (show mn met ≠ 0 by omega)
    omega
noncomputable def gw (w : Int) : Prop := 0 ≤ w ∧ (w % 2 = 1 → 0 ≤ w / 2 ∧ w / 2 < 4)
theorem goW_gw {j : Option Nat} : ∀ {cs : List Int} {met : Nat}, ∀ w ∈ (goW j cs met).1, gw w
  | c :: cs, met, w, h => by
    simp only [goW, List.mem_cons] at h
    rcases h with rfl | h
    · exact ⟨wd_nonneg, fun q => ⟨(wd_odd q).1, (wd_odd q).2.1⟩⟩
    · exact goW_gw w h
theorem bump_le {j : Option Nat} {met : Nat} {c : Int} (h : met ≤ 4) : bump j met (wd c met) ≤ 4 := by
  unfold bump
  split
  · rename_i q
    have h1 : wd c met % 2 = 1 := by omega
    have := (wd_odd h1).2.1
    omega
  · exact h
theorem bump_ge {j : Option Nat} {met : Nat} {w : Int} : met ≤ bump j met w := by unfold bump; split <;> omega
theorem goW_le {j : Option Nat} : ∀ {cs : List Int} {met : Nat}, met ≤ 4 → (goW j cs met).2 ≤ 4 ∧ met ≤ (goW j cs met).2
  | [], met, h => ⟨h, Nat.le_refl _⟩
  | c :: cs, met, h => by
    have := goW_le (j := j) (cs := cs) (bump_le (j := j) (c := c) h)
    have := bump_ge (j := j) (met := met) (w := wd c met)
    simp only [goW]
    omega
noncomputable def ks (m : Nat) : List Int := (List.range m).map fun (i : Nat) => (i : Int)
theorem mem_ks {m : Nat} {k : Int} : k ∈ ks m ↔ 0 ≤ k ∧ k < m := by
  unfold ks
  rw [List.mem_map]
  constructor
  · rintro ⟨i, hi, rfl⟩
    have := List.mem_range.mp hi
    omega
  · rintro ⟨h1, h2⟩
    exact ⟨k.toNat, List.mem_range.mpr (by omega), by omega⟩
theorem ks_succ {m : Nat} : ks (m + 1) = ks m ++ [(m : Int)] := by simp [ks, List.range_succ]
noncomputable def vw (w : Int) : V := (w % 2, w / 2)
theorem vis_ks {met : Nat} {c : Int} {j : Option Nat} (hj : isJ j met = true) : vis (ks met) (vw (wd c met)) = ks (bump j met (wd c met)) := by
  unfold vis bump
  by_cases q : wd c met % 2 = 1
  · have h := wd_odd q
    by_cases z : wd c met = 2 * (met : Int) + 1
    · have hv2 : (vw (wd c met)).2 = (met : Int) := by simp only [vw]; omega
      have hn : (vw (wd c met)).2 ∉ ks met := fun y => by
        have := (mem_ks.mp y).2
        omega
      rw [if_pos ⟨q, hn⟩, if_pos ⟨hj, z⟩, ks_succ, hv2]
    · have hm : (vw (wd c met)).2 ∈ ks met := mem_ks.mpr ⟨h.1, by simp only [vw]; omega⟩
      rw [if_neg (fun y => y.2 hm), if_neg (fun y => z y.2)]
  · rw [if_neg (fun y => q y.1), if_neg (fun y => q (by rw [y.2]; omega))]
theorem fold_ks {j : Option Nat} : ∀ {cs : List Int} {met : Nat}, isJ j met = true → ((goW j cs met).1.map vw).foldl vis (ks met) = ks (goW j cs met).2
  | [], met, _ => rfl
  | c :: cs, met, h => by
    simp only [goW, List.map_cons, List.foldl_cons]
    rw [vis_ks h]
    refine fold_ks ?_
    have := bump_ge (j := j) (met := met) (w := wd c met)
    cases j with
    | none => rfl
    | some k => simp only [isJ, decide_eq_true_eq] at h ⊢; omega
theorem goW_stay {k : Nat} : ∀ {cs : List Int} {met : Nat}, met ≤ k → (goW (some k) cs met).2 = met
  | [], met, _ => rfl
  | c :: cs, met, h => by
    have hb : bump (some k) met (wd c met) = met := by
      unfold bump
      rw [if_neg]
      rintro ⟨q, _⟩
      simp only [isJ, decide_eq_true_eq] at q
      omega
    simp only [goW, hb]
    exact goW_stay h

noncomputable def b1a : List S := match b1 with | [_, _, .for1 _ _ b, _, _, _, _, _] => b | _ => []
noncomputable def b1b : List S := match b1 with | [_, _, _, _, .for1 _ _ b, _, _, _] => b | _ => []
noncomputable def b1c : List S := match b1b with | [_, .for1 _ _ b, _, _] => b | _ => []
theorem b1a_eq : b1a = [S.append 3 (E.call 0 [(E.var 4), (E.var 2)]), S.ife (E.cmp .eq (E.idx (E.own 3) (E.neg (E.int 1))) (E.bin .add (E.bin .mul (E.int 2) (E.var 2)) (E.int 1))) [S.assign 2 (E.bin .add (E.var 2) (E.int 1))] []] := rfl
theorem b1c_eq : b1c = [S.append 7 (E.call 0 [(E.var 4), (E.var 2)]), S.ife (E.bop true (E.cmp .lt (E.len (E.own 5)) (E.var 2)) (E.cmp .eq (E.idx (E.own 7) (E.neg (E.int 1))) (E.bin .add (E.bin .mul (E.int 2) (E.var 2)) (E.int 1)))) [S.assign 2 (E.bin .add (E.var 2) (E.int 1))] []] := rfl
theorem b1b_eq : b1b = [S.assignO 7 (E.lst []), S.for1 4 (E.sl (E.var 6) (E.int 1) (E.bin .add (E.int 1) (E.bin .mod (E.idx (E.var 6) (E.int 0)) (E.int 3)))) b1c, S.frz 7, S.append 5 (E.var 7)] := rfl
theorem b1_eq : b1 = [S.assign 2 (E.int 0), S.assignO 3 (E.lst []), S.for1 4 (E.var 0) b1a, S.assignO 5 (E.lst []), S.for1 6 (E.var 1) b1b, S.frz 3, S.frz 5, S.ret (E.tup [(E.var 3), (E.var 5), (E.var 2)])] := rfl
theorem nth_last {xs : List PyData} {x : PyData} : nth (xs ++ [x]) (-1) = some x := by
  have h1 : ¬ (0 : Int) ≤ -1 := by omega
  have h2 : -((xs ++ [x]).length : Int) ≤ -1 := by simp; omega
  have h3 : (-1 + ((xs ++ [x]).length : Int)).toNat = xs.length := by simp; omega
  unfold nth
  rw [if_neg h1, if_pos h2, h3]
  simp
noncomputable def T1a (d : PyData) (ρ : Rho) : Out := evSs (Ft 1) b1a (ρ.set 4 (.v d))
noncomputable def T1c (d : PyData) (ρ : Rho) : Out := evSs (Ft 1) b1c (ρ.set 4 (.v d))
noncomputable def T1b (d : PyData) (ρ : Rho) : Out := evSs (Ft 1) b1b (ρ.set 6 (.v d))
theorem turn1a {x0 x1 x4 x5 x6 x7 : VA} {c : Int} {met : Nat} {ws : List Int} (hl : ws.length ≤ 1000) : T1a (.int c) [x0, x1, .v (.int (met : Nat)), .own (ws.map .int), x4, x5, x6, x7] = .next [x0, x1, .v (.int (bump none met (wd c met) : Nat)), .own ((ws ++ [wd c met]).map .int), .v (.int c), x5, x6, x7] := by
  have ew := e_word (c := c) (met := met)
  have hl' : (ws.map PyData.int).length < 1048576 := by simp; omega
  have hn : idxD (.list (ws.map .int ++ [.int (wd c met)])) (.int (-1)) = .ok (.int (wd c met)) := by simp only [idxD, nth_last]
  unfold T1a bump
  rw [b1a_eq, List.map_append]
  generalize ws.map PyData.int = wm at *
  refine (step (by simp [Ft_fn, ew, hl']; rfl)).trans ?_
  by_cases q : wd c met = 2 * (met : Int) + 1
  · rw [if_pos ⟨rfl, q⟩]
    refine (step ((stepT (by simp [hn]; exact q)).trans ((step (by simp; rfl)).trans evSs_nil))).trans ?_
    rfl
  · rw [if_neg (fun z => q z.2)]
    refine (step ((stepF (by simp [hn, q])).trans evSs_nil)).trans ?_
    rfl
theorem loop1a {x0 x1 x5 x6 x7 : VA} : ∀ {cs : List Int} {met : Nat} {ws : List Int} {x4 : VA}, ws.length + cs.length ≤ 1000 → ∃ y4, forL T1a (cs.map .int) [x0, x1, .v (.int (met : Nat)), .own (ws.map .int), x4, x5, x6, x7] = .next [x0, x1, .v (.int ((goW none cs met).2 : Nat)), .own ((ws ++ (goW none cs met).1).map .int), y4, x5, x6, x7]
  | [], met, ws, x4, _ => ⟨x4, by simp [forL, goW]⟩
  | c :: cs, met, ws, x4, h => by
    obtain ⟨y4, ih⟩ := loop1a (x0 := x0) (x1 := x1) (x5 := x5) (x6 := x6) (x7 := x7) (cs := cs) (met := bump none met (wd c met)) (ws := ws ++ [wd c met]) (x4 := .v (.int c)) (by simp at h ⊢; omega)
    refine ⟨y4, ?_⟩
    rw [List.map_cons, forL, turn1a (by simp at h; omega)]
    simp only
    rw [ih]
    simp [goW]
theorem turn1c {x0 x1 x3 x4 x6 : VA} {c : Int} {met : Nat} {ws : List Int} {rows : List PyData} (hl : ws.length ≤ 1000) : T1c (.int c) [x0, x1, .v (.int (met : Nat)), x3, x4, .own rows, x6, .own (ws.map .int)] = .next [x0, x1, .v (.int (bump (some rows.length) met (wd c met) : Nat)), x3, .v (.int c), .own rows, x6, .own ((ws ++ [wd c met]).map .int)] := by
  have ew := e_word (c := c) (met := met)
  have hl' : (ws.map PyData.int).length < 1048576 := by simp; omega
  have hn : idxD (.list (ws.map .int ++ [.int (wd c met)])) (.int (-1)) = .ok (.int (wd c met)) := by simp only [idxD, nth_last]
  unfold T1c bump
  rw [b1c_eq, List.map_append]
  generalize ws.map PyData.int = wm at *
  refine (step (by simp [Ft_fn, ew, hl']; rfl)).trans ?_
  by_cases z : rows.length < met
  · by_cases q : wd c met = 2 * (met : Int) + 1
    · rw [if_pos ⟨by simp [isJ, z], q⟩]
      refine (step ((stepT (by simp [hn, z]; exact q)).trans ((step (by simp; rfl)).trans evSs_nil))).trans ?_
      rfl
    · rw [if_neg (fun z => q z.2)]
      refine (step ((stepF (by simp [hn, q, z])).trans evSs_nil)).trans ?_
      rfl
  · rw [if_neg (fun y => z (by simpa [isJ] using y.1))]
    refine (step ((stepF (by simp [z])).trans evSs_nil)).trans ?_
    rfl
theorem loop1c {x0 x1 x3 x6 : VA} {rows : List PyData} : ∀ {cs : List Int} {met : Nat} {ws : List Int} {x4 : VA}, ws.length + cs.length ≤ 1000 → ∃ y4, forL T1c (cs.map .int) [x0, x1, .v (.int (met : Nat)), x3, x4, .own rows, x6, .own (ws.map .int)] = .next [x0, x1, .v (.int ((goW (some rows.length) cs met).2 : Nat)), x3, y4, .own rows, x6, .own ((ws ++ (goW (some rows.length) cs met).1).map .int)]
  | [], met, ws, x4, _ => ⟨x4, by simp [forL, goW]⟩
  | c :: cs, met, ws, x4, h => by
    obtain ⟨y4, ih⟩ := loop1c (x0 := x0) (x1 := x1) (x3 := x3) (x6 := x6) (rows := rows) (cs := cs) (met := bump (some rows.length) met (wd c met)) (ws := ws ++ [wd c met]) (x4 := .v (.int c)) (by simp at h ⊢; omega)
    refine ⟨y4, ?_⟩
    rw [List.map_cons, forL, turn1c (by simp at h; omega)]
    simp only
    rw [ih]
    simp [goW]
structure Cl where
  n : Int
  a : Int
  b : Int
noncomputable def cells (c : Cl) : List Int := [c.a, c.b].take (c.n % 3).toNat
noncomputable def clD (c : Cl) : PyData := .tuple [.int c.n, .int c.a, .int c.b]
theorem cells_ev {c : Cl} : slD (clD c) (.int 1) (.int (1 + c.n % 3)) = .ok (.tuple ((cells c).map .int)) := by
  have h : 0 ≤ c.n % 3 ∧ c.n % 3 < 3 := by omega
  have h1 : (1 : Int) ≤ 1 ∧ 1 ≤ 1 + c.n % 3 ∧ 1 + c.n % 3 ≤ (([PyData.int c.n, .int c.a, .int c.b] : List PyData).length : Int) := by
    simp; omega
  have h2 : (1 + c.n % 3).toNat = (c.n % 3).toNat + 1 := by omega
  simp only [slD, clD, if_pos h1, h2, cells, List.map_take]
  rfl
theorem cells_len {c : Cl} : (cells c).length ≤ 2 := by simp [cells]; omega
theorem turn1b {x0 x1 x3 x4 x6 x7 : VA} {c : Cl} {met : Nat} {rows : List PyData} (hl : rows.length ≤ 1000) : ∃ y4 y7, T1b (clD c) [x0, x1, .v (.int (met : Nat)), x3, x4, .own rows, x6, x7] = .next [x0, x1, .v (.int ((goW (some rows.length) (cells c) met).2 : Nat)), x3, y4, .own (rows ++ [LI (goW (some rows.length) (cells c) met).1]), .v (clD c), y7] := by
  have hcl := cells_len (c := c)
  obtain ⟨y4, e⟩ := loop1c (x0 := x0) (x1 := x1) (x3 := x3) (x6 := .v (clD c)) (rows := rows) (cs := cells c) (met := met) (ws := []) (x4 := x4) (by simp; omega)
  rw [List.nil_append] at e
  refine ⟨y4, .v (LI (goW (some rows.length) (cells c) met).1), ?_⟩
  have hc0 : idxD (clD c) (.int 0) = .ok (.int c.n) := by simp [clD, idxD, nth_zero]
  have hsl := cells_ev (c := c)
  have hm : binD .mod (.int c.n) (.int 3) = .ok (.int (c.n % 3)) := rfl
  have hl' : rows.length < 1048576 := by omega
  unfold T1b LI
  rw [b1b_eq]
  have h0 : ([] : List Int).map PyData.int = [] := rfl
  rw [h0] at e
  generalize (goW (some rows.length) (cells c) met).1.map PyData.int = ws at *
  generalize (goW (some rows.length) (cells c) met).2 = mt at *
  generalize clD c = cd at *
  generalize (cells c).map PyData.int = cc at *
  refine (step (by simp; rfl)).trans ?_
  refine (step ((for_of (t := T1c) (xs := cc) (by
    show (ev (Ft 1) _ none (E.sl (E.var 6) (E.int 1) (E.bin .add (E.int 1) (E.bin .mod (E.idx (E.var 6) (E.int 0)) (E.int 3))))).bind itemsD = _
    simp [hc0, hm, hsl]
    rfl) fun _ _ => rfl).trans e)).trans ?_
  refine (step (by simp; rfl)).trans ?_
  refine (step (by simp [hl']; rfl)).trans ?_
  rfl
noncomputable def goR : List Cl → Nat → Nat → List (List Int) × Nat
  | [], _, met => ([], met)
  | c :: cs, j, met => ((goW (some j) (cells c) met).1 :: (goR cs (j + 1) (goW (some j) (cells c) met).2).1, (goR cs (j + 1) (goW (some j) (cells c) met).2).2)
noncomputable def LL (rows : List (List Int)) : List PyData := rows.map LI
theorem loop1b {x0 x1 x3 : VA} : ∀ {cs : List Cl} {met : Nat} {rows : List (List Int)} {x4 x6 x7 : VA}, rows.length + cs.length ≤ 1000 → ∃ y4 y6 y7, forL T1b (cs.map clD) [x0, x1, .v (.int (met : Nat)), x3, x4, .own (LL rows), x6, x7] = .next [x0, x1, .v (.int ((goR cs rows.length met).2 : Nat)), x3, y4, .own (LL (rows ++ (goR cs rows.length met).1)), y6, y7]
  | [], met, rows, x4, x6, x7, _ => ⟨x4, x6, x7, by simp [forL, goR]⟩
  | c :: cs, met, rows, x4, x6, x7, h => by
    have hll : (LL rows).length = rows.length := by simp [LL]
    obtain ⟨z4, z7, e⟩ := turn1b (x0 := x0) (x1 := x1) (x3 := x3) (x4 := x4) (x6 := x6) (x7 := x7) (c := c) (met := met) (rows := LL rows) (by rw [hll]; simp at h; omega)
    rw [hll] at e
    obtain ⟨y4, y6, y7, ih⟩ := loop1b (x0 := x0) (x1 := x1) (x3 := x3) (cs := cs) (met := (goW (some rows.length) (cells c) met).2) (rows := rows ++ [(goW (some rows.length) (cells c) met).1]) (x4 := z4) (x6 := .v (clD c)) (x7 := z7) (by simp at h ⊢; omega)
    refine ⟨y4, y6, y7, ?_⟩
    rw [List.map_cons, forL, e]
    have h2 : LL rows ++ [LI (goW (some rows.length) (cells c) met).1] = LL (rows ++ [(goW (some rows.length) (cells c) met).1]) := by simp [LL]
    simp only
    rw [h2, ih]
    simp [goR]
theorem e_shape0 {r0 r1 r2 : Int} {c0 c1 c2 c3 : Cl} : fn 1 [.tuple [.int r0, .int r1, .int r2], .tuple [clD c0, clD c1, clD c2, clD c3]] =
    .ok (.tuple [LI (goW none [r0, r1, r2] 0).1, .list (LL (goR [c0, c1, c2, c3] 0 (goW none [r0, r1, r2] 0).2).1), .int ((goR [c0, c1, c2, c3] 0 (goW none [r0, r1, r2] 0).2).2 : Nat)]) := by
  rw [fn1, fnR_of (ρ := [.v (.tuple [.int r0, .int r1, .int r2]), .v (.tuple [clD c0, clD c1, clD c2, clD c3]), .un, .un, .un, .un, .un, .un]) rfl, b1_eq]
  obtain ⟨y4, e1⟩ := loop1a (x0 := .v (.tuple [.int r0, .int r1, .int r2])) (x1 := .v (.tuple [clD c0, clD c1, clD c2, clD c3])) (x5 := .un) (x6 := .un) (x7 := .un) (cs := [r0, r1, r2]) (met := 0) (ws := []) (x4 := .un) (by simp)
  obtain ⟨z4, z6, z7, e2⟩ := loop1b (x0 := .v (.tuple [.int r0, .int r1, .int r2])) (x1 := .v (.tuple [clD c0, clD c1, clD c2, clD c3])) (x3 := .own ((goW none [r0, r1, r2] 0).1.map .int)) (cs := [c0, c1, c2, c3]) (met := (goW none [r0, r1, r2] 0).2) (rows := []) (x4 := y4) (x6 := .un) (x7 := .un) (by simp)
  rw [List.nil_append] at e1 e2
  rw [List.length_nil] at e2
  have hc1 : [r0, r1, r2].map PyData.int = [.int r0, .int r1, .int r2] := rfl
  have hc2 : [c0, c1, c2, c3].map clD = [clD c0, clD c1, clD c2, clD c3] := rfl
  rw [hc1] at e1
  rw [hc2] at e2
  refine (congrArg bodyR (a₂ := .ret _) ?_).trans rfl
  unfold LI
  have h0 : ([] : List Int).map PyData.int = [] := rfl
  have h1 : LL [] = [] := rfl
  rw [h0] at e1
  rw [h1] at e2
  generalize (goR [c0, c1, c2, c3] 0 (goW none [r0, r1, r2] 0).2).2 = m2 at *
  generalize LL (goR [c0, c1, c2, c3] 0 (goW none [r0, r1, r2] 0).2).1 = rows at *
  generalize (goW none [r0, r1, r2] 0).2 = m1 at *
  generalize (goW none [r0, r1, r2] 0).1.map PyData.int = rts at *
  generalize [clD c0, clD c1, clD c2, clD c3] = cds at *
  generalize [PyData.int r0, .int r1, .int r2] = rds at *
  refine (step (by simp; rfl)).trans ?_
  refine (step (by simp; rfl)).trans ?_
  refine (step ((for_of (t := T1a) (xs := rds) (by simp; rfl) fun _ _ => rfl).trans e1)).trans ?_
  refine (step (by simp; rfl)).trans ?_
  refine (step ((for_of (t := T1b) (xs := cds) (by simp; rfl) fun _ _ => rfl).trans e2)).trans ?_
  refine (step (by simp; rfl)).trans ?_
  refine (step (by simp; rfl)).trans ?_
  exact stepR (by simp)
end Mine.L1

-- K3
namespace Mine.L1
open PySem Mine

theorem goR_stay : ∀ {cs : List Cl} {j met : Nat}, met ≤ j → (goR cs j met).2 = met
  | [], _, _, _ => rfl
  | c :: cs, j, met, h => by
    simp only [goR]
    rw [goW_stay h, goR_stay (by omega)]
theorem goR_len : ∀ {cs : List Cl} {j met : Nat}, (goR cs j met).1.length = cs.length
  | [], _, _ => rfl
  | c :: cs, j, met => by simp [goR, goR_len]
theorem goR_gw : ∀ {cs : List Cl} {j met : Nat}, ∀ r ∈ (goR cs j met).1, r.length ≤ 2 ∧ ∀ w ∈ r, gw w
  | c :: cs, j, met, r, h => by
    simp only [goR, List.mem_cons] at h
    rcases h with rfl | h
    · exact ⟨by rw [goW_len]; exact cells_len, goW_gw⟩
    · exact goR_gw r h
theorem goR_le : ∀ {cs : List Cl} {j met : Nat}, met ≤ 4 → (goR cs j met).2 ≤ 4
  | [], _, _, h => h
  | c :: cs, j, met, h => by
    simp only [goR]
    exact goR_le (goW_le h).1
theorem ks_at {m j : Nat} : (ks m)[j]? = if j < m then some (j : Int) else none := by
  unfold ks
  rw [List.getElem?_map]
  by_cases h : j < m
  · rw [if_pos h, List.getElem?_range h]; rfl
  · rw [if_neg h, List.getElem?_eq_none (by simp; omega)]; rfl
theorem scan_goR {H : Hp} : ∀ {cs : List Cl} {j met : Nat}, (∀ i (h : i < (goR cs j met).1.length), hrow H ((j + i : Nat) : Int) = ((goR cs j met).1[i]).map vw) → scan H cs.length j (ks met) = ks (goR cs j met).2
  | [], j, met, _ => rfl
  | c :: cs, j, met, h => by
    rw [List.length_cons, scan, ks_at]
    by_cases q : j < met
    · rw [if_pos q]
      simp only
      have h0 := h 0 (by simp [goR])
      simp only [goR, List.getElem_cons_zero, Nat.add_zero] at h0
      rw [h0, fold_ks (by simp [isJ, q])]
      have ih := scan_goR (H := H) (cs := cs) (j := j + 1) (met := (goW (some j) (cells c) met).2) (fun i hi => by
        have := h (i + 1) (by simp [goR]; exact hi)
        simp only [goR, List.getElem_cons_succ] at this
        rw [show j + 1 + i = j + (i + 1) by omega]
        exact this)
      rw [ih]
      rfl
    · rw [if_neg q, goR_stay (by omega)]

noncomputable def H4 (rows : List (List Int)) : Hp := [(0, (rows.getD 0 []).map vw), (1, (rows.getD 1 []).map vw), (2, (rows.getD 2 []).map vw), (3, (rows.getD 3 []).map vw)]
theorem H4_keys {rows : List (List Int)} : keys (H4 rows) = [0, 1, 2, 3] := rfl
theorem mem4 {k : Int} : k ∈ ([0, 1, 2, 3] : List Int) ↔ 0 ≤ k ∧ k < 4 := by
  simp only [List.mem_cons, List.not_mem_nil, or_false]
  omega
theorem H4_row {rows : List (List Int)} {k : Int} (h : 0 ≤ k ∧ k < 4) : hrow (H4 rows) k = (rows.getD k.toNat []).map vw := by
  have : k = 0 ∨ k = 1 ∨ k = 2 ∨ k = 3 := by omega
  rcases this with rfl | rfl | rfl | rfl <;> rfl
structure Gr (rts : List Int) (rows : List (List Int)) (met : Nat) : Prop where
  l3 : rts.length = 3
  l4 : rows.length = 4
  le : met ≤ 4
  rg : ∀ w ∈ rts, gw w
  row : ∀ r ∈ rows, r.length ≤ 2 ∧ ∀ w ∈ r, gw w
  lv : live (H4 rows) (rts.map vw) = ks met
theorem gr_of {r0 r1 r2 : Int} {c0 c1 c2 c3 : Cl} : Gr (goW none [r0, r1, r2] 0).1 (goR [c0, c1, c2, c3] 0 (goW none [r0, r1, r2] 0).2).1 (goR [c0, c1, c2, c3] 0 (goW none [r0, r1, r2] 0).2).2 := by
  refine ⟨by rw [goW_len]; rfl, by rw [goR_len]; rfl, goR_le (goW_le (by omega)).1, goW_gw, goR_gw, ?_⟩
  unfold live
  have h0 : ([] : List Int) = ks 0 := rfl
  rw [h0, fold_ks rfl, H4_keys]
  refine scan_goR (cs := [c0, c1, c2, c3]) fun i hi => ?_
  rw [goR_len] at hi
  have hi4 : i < 4 := hi
  rw [Nat.zero_add, H4_row (by omega)]
  have : ((i : Nat) : Int).toNat = i := by omega
  rw [this, List.getD_eq_getElem?_getD, List.getElem?_eq_getElem (by rw [goR_len]; exact hi)]
  rfl
theorem Gr.cl {rts : List Int} {rows : List (List Int)} {met : Nat} (G : Gr rts rows met) : (∀ k ∈ keys (H4 rows), ∀ v ∈ hrow (H4 rows) k, v.1 = 1 → v.2 ∈ keys (H4 rows)) ∧ ∀ v ∈ rts.map vw, v.1 = 1 → v.2 ∈ keys (H4 rows) := by
  constructor
  · intro k hk v hv h1
    rw [H4_keys] at hk ⊢
    rw [mem4] at hk ⊢
    rw [H4_row hk] at hv
    obtain ⟨w, hw, rfl⟩ := List.mem_map.mp hv
    have hr : rows.getD k.toNat [] ∈ rows := by
      rw [List.getD_eq_getElem?_getD, List.getElem?_eq_getElem (by rw [G.l4]; omega)]
      exact List.getElem_mem _
    exact ((G.row _ hr).2 w hw).2 h1
  · intro v hv h1
    obtain ⟨w, hw, rfl⟩ := List.mem_map.mp hv
    rw [H4_keys, mem4]
    exact (G.rg w hw).2 h1

noncomputable def la (pl : Int → Nat) (w : Int) : Int := encP pl (vw w)
theorem la_even {pl : Int → Nat} {w : Int} (h : ¬ w % 2 = 1) : la pl w = w := by
  unfold la encP vw
  rw [if_neg h]
  show 2 * (w / 2) = w
  omega
theorem la_odd {pl : Int → Nat} {w : Int} (h : w % 2 = 1) : la pl w = 2 * (pl (w / 2) : Int) + 1 := by
  unfold la encP vw
  rw [if_pos h]
noncomputable def AD (pl : Int → Nat) (sq : List Int) : PyData := .dict (dk (sq.map fun s => (s, .int (pl s : Nat))))
theorem lookup_self {g : Int → PyData} : ∀ {sq : List Int} {k : Int}, k ∈ sq → (sq.map fun s => (s, g s)).lookup k = some (g k)
  | [], _, h => by simp at h
  | j :: sq, k, h => by
    rw [List.map_cons, List.lookup_cons]
    by_cases q : k = j
    · subst q; simp
    · have q' : (k == j) = false := by simpa using q
      rw [q']
      exact lookup_self (by simpa [q] using h)
theorem idx_AD {pl : Int → Nat} {sq : List Int} {k : Int} (h : k ∈ sq) : idxD (AD pl sq) (.int k) = .ok (.int (pl k : Nat)) := by
  simp only [idxD, AD, dget_dk, lookup_self (g := fun s => .int (pl s : Nat)) h]
theorem e_laid {pl : Int → Nat} {sq row : List Int} (h : ∀ w ∈ row, w % 2 = 1 → w / 2 ∈ sq) : fn 2 [LI row, AD pl sq] = .ok (LI (row.map (la pl))) := by
  rw [fn2, fnR_of (ρ := [.v (LI row), .v (AD pl sq)]) rfl]
  have hb : b2 = [S.ret (E.comp (E.ite (E.cmp .eq (E.bin .mod E.cv (E.int 2)) (E.int 1)) (E.bin .add (E.bin .mul (E.int 2) (E.idx (E.var 1) (E.bin .fdiv E.cv (E.int 2)))) (E.int 1)) E.cv) (E.var 0))] := rfl
  rw [hb]
  refine (congrArg bodyR (a₂ := .ret (LI (row.map (la pl)))) ?_).trans rfl
  have hm : ev (Ft 2) [.v (LI row), .v (AD pl sq)] none (E.comp (E.ite (E.cmp .eq (E.bin .mod E.cv (E.int 2)) (E.int 1)) (E.bin .add (E.bin .mul (E.int 2) (E.idx (E.var 1) (E.bin .fdiv E.cv (E.int 2)))) (E.int 1)) E.cv) (E.var 0)) = .ok (.list (row.map fun w => .int (la pl w))) :=
    ev_compS (xs := row.map .int) (by simp [LI]) (mapR_map fun w hw => by
      by_cases q : w % 2 = 1
      · simp [q, idx_AD (h w hw q), la_odd q]
      · simp [q, la_even q])
  exact stepR (by rw [evS_ret, sm_comp, hm]; simp [LI])
noncomputable def fz : Nat → List RT
  | 0 => []
  | n + 1 => [tF n]
theorem tm_fz : ∀ {n : Nat}, tm (fz n) = free n
  | 0 => rfl
  | n + 1 => by simp [fz, free, tF]
theorem fz_ok {n : Nat} : ∀ t ∈ fz n, Tk t := by
  cases n with
  | zero => intro t h; cases h
  | succ n =>
    intro t h
    simp only [fz, List.mem_singleton] at h
    subst h
    exact Tk.f
theorem fz_sz : ∀ {n : Nat}, tsz (fz n) = n
  | 0 => rfl
  | n + 1 => by simp [fz, tF]
theorem frem_fz {n k : Nat} : frem n k = fz (n - k) := by
  unfold frem
  by_cases h : k < n
  · rw [if_pos h]
    obtain ⟨j, hj⟩ : ∃ j, n - k = j + 1 := ⟨n - k - 1, by omega⟩
    rw [hj]; rfl
  · rw [if_neg h, show n - k = 0 by omega]; rfl
theorem e_free {n : Nat} (h : n ≤ 1000) : fn 7 [.int (n : Nat)] = .ok (LI (free n)) := by
  rw [fn7, fnR_of (ρ := [.v (.int (n : Nat))]) rfl]
  have hb : b7 = [S.ret (E.slTo (E.bin .add (E.lst [(E.neg (E.var 0))]) (E.bin .mul (E.lst [(E.int 0)]) (E.var 0))) (E.var 0))] := rfl
  rw [hb]
  refine (congrArg bodyR (a₂ := .ret (LI (free n))) ?_).trans rfl
  have e1 : binD .mul (.list [.int 0]) (.int (n : Nat)) = .ok (LI (List.replicate n 0)) := by
    rw [mulZ (by omega), show ((n : Nat) : Int).toNat = n by omega]
  have e2 : binD .add (.list [.int (-(n : Int))]) (LI (List.replicate n 0)) = .ok (LI (-(n : Int) :: List.replicate n 0)) := by
    have := addL (a := [-(n : Int)]) (b := List.replicate n 0) (by simp; omega)
    exact this
  have e3 : slToD (LI (-(n : Int) :: List.replicate n 0)) (.int (n : Nat)) = .ok (LI (free n)) := by
    have h0 : (0 : Int) ≤ (n : Nat) := by omega
    have h1 : ((n : Nat) : Int).toNat = n := by omega
    simp only [slToD, LI, if_pos h0, h1, ← List.map_take]
    cases n with
    | zero => rfl
    | succ n =>
      rw [List.take_succ_cons, List.take_replicate, free, Nat.min_eq_left (by omega)]
      rfl
  generalize LI (-(n : Int) :: List.replicate n 0) = l1 at *
  generalize LI (List.replicate n 0) = l2 at *
  generalize LI (free n) = l3 at *
  exact stepR (by simp [e1, e2, e3])
end Mine.L1

-- K4
namespace Mine.L1
open PySem Mine

section
variable {ro : Int → List Int} {pl : Int → Nat}
noncomputable def tot (ro : Int → List Int) (L : List Int) : Nat := (L.map fun s => (ro s).length + 1).sum
noncomputable def plc (ro : Int → List Int) : List Int → Int → Nat
  | [], _ => 0
  | j :: sq, s => if j = s then 0 else (ro j).length + 1 + plc ro sq s
noncomputable def T (ro : Int → List Int) (pl : Int → Nat) (L : List Int) : List RT := L.map fun s => tO ((ro s).map (la pl))
@[simp] theorem tot_nil : tot ro [] = 0 := rfl
@[simp] theorem tot_cons {s : Int} {L : List Int} : tot ro (s :: L) = (ro s).length + 1 + tot ro L := by simp [tot]
@[simp] theorem tot_append {A B : List Int} : tot ro (A ++ B) = tot ro A + tot ro B := by simp [tot]
@[simp] theorem T_nil : T ro pl [] = [] := rfl
@[simp] theorem T_cons {s : Int} {L : List Int} : T ro pl (s :: L) = tO ((ro s).map (la pl)) :: T ro pl L := rfl
@[simp] theorem T_append {A B : List Int} : T ro pl (A ++ B) = T ro pl A ++ T ro pl B := by simp [T]
@[simp] theorem tsz_T : ∀ {L : List Int}, tsz (T ro pl L) = tot ro L
  | [] => rfl
  | s :: L => by
    have := tsz_T (L := L)
    simp [tO, this]
theorem T_ok {L : List Int} : ∀ t ∈ T ro pl L, Tk t := fun t h => by
  obtain ⟨s, _, rfl⟩ := List.mem_map.mp h
  exact Tk.o
theorem T_noFit {L : List Int} {k : Nat} : ∀ t ∈ T ro pl L, noFit k t := fun t h => by
  obtain ⟨s, _, rfl⟩ := List.mem_map.mp h
  rintro ⟨h1, _⟩
  simp only [tO] at h1
  omega
theorem plc_mid : ∀ {A B : List Int} {s : Int}, s ∉ A → plc ro (A ++ s :: B) s = tot ro A
  | [], B, s, _ => by simp [plc]
  | j :: A, B, s, h => by
    simp only [List.mem_cons, not_or] at h
    have q : ¬ j = s := fun z => h.1 z.symm
    simp [plc, q, plc_mid h.2]
theorem plc_inj : ∀ {sq : List Int} {k k' : Int}, k ∈ sq → k' ∈ sq → plc ro sq k = plc ro sq k' → k = k'
  | [], _, _, h, _, _ => by simp at h
  | j :: sq, k, k', h, h', e => by
    by_cases q : j = k
    · by_cases q' : j = k'
      · exact q.symm.trans q'
      · simp only [plc, if_pos q, if_neg q'] at e; omega
    · by_cases q' : j = k'
      · simp only [plc, if_neg q, if_pos q'] at e; omega
      · have z : ¬ k = j := fun z => q z.symm
        have z' : ¬ k' = j := fun z => q' z.symm
        simp only [plc, if_neg q, if_neg q'] at e
        exact plc_inj (by simpa [z] using h) (by simpa [z'] using h') (by omega)
theorem plc_lt : ∀ {sq : List Int} {k : Int}, k ∈ sq → plc ro sq k + ((ro k).length + 1) ≤ tot ro sq
  | [], _, h => by simp at h
  | j :: sq, k, h => by
    by_cases q : j = k
    · subst q; simp [plc]
    · have z : ¬ k = j := fun z => q z.symm
      have := plc_lt (sq := sq) (k := k) (by simpa [z] using h)
      simp only [plc, if_neg q, tot_cons]; omega
theorem pl_mid {sq A B : List Int} {s : Int} (hn : sq.Nodup) (h : sq = A ++ s :: B) : plc ro sq s = tot ro A := by
  subst h
  refine plc_mid fun z => ?_
  rw [List.nodup_append] at hn
  exact hn.2.2 s z s (by simp) rfl
theorem heads_T {sq Z : List Int} (hn : sq.Nodup) : ∀ {L A : List Int}, sq = A ++ (L ++ Z) → heads (tot ro A) (T ro pl L) = pls (plc ro sq) L
  | [], _, _ => rfl
  | s :: L, A, h => by
    have h1 : plc ro sq s = tot ro A := pl_mid hn (B := L ++ Z) (by rw [h]; simp)
    have ih := heads_T (Z := Z) hn (L := L) (A := A ++ [s]) (by rw [h]; simp)
    rw [T_cons, heads]
    have h2 : ¬ (tO ((ro s).map (la pl))).1 < 0 := by simp only [tO]; omega
    rw [if_neg h2]
    have h3 : tot ro A + ((tO ((ro s).map (la pl))).2.length + 1) = tot ro (A ++ [s]) := by simp [tO]
    rw [h3, ih]
    simp [pls, h1]
theorem allLive_T {M sq Z : List Int} (hn : sq.Nodup) : ∀ {L A : List Int}, sq = A ++ (L ++ Z) → (∀ s ∈ L, ((plc ro sq s : Nat) : Int) ∈ M) → allLive M (tot ro A) (T ro pl L)
  | [], _, _, _ => trivial
  | s :: L, A, h, hM => by
    have h1 : plc ro sq s = tot ro A := pl_mid hn (B := L ++ Z) (by rw [h]; simp)
    have ih := allLive_T (Z := Z) hn (L := L) (A := A ++ [s]) (by rw [h]; simp) fun u hu => hM u (.tail _ hu)
    rw [T_cons]
    have h2 : ¬ (tO ((ro s).map (la pl))).1 < 0 := by simp only [tO]; omega
    have h3 : tot ro A + ((tO ((ro s).map (la pl))).2.length + 1) = tot ro (A ++ [s]) := by simp [tO]
    refine ⟨⟨h2, ?_⟩, ?_⟩
    · rw [← h1]; exact hM s (.head _)
    · rw [h3]; exact ih
theorem swp_fz {M : List Int} {a n : Nat} {A : List RT} : swp M a A none (fz n) = A ++ fz n := by
  cases n with
  | zero => simp [fz, swp, opn]
  | succ n =>
    have h : ¬ (¬ (tF n).1 < 0 ∧ ((a : Nat) : Int) ∈ M) := fun z => z.1 (by simp only [tF]; omega)
    simp only [fz]
    rw [swp_cons, if_neg h]
    simp [swp, opn, tF]
theorem swp_hole {M : List Int} {a r : Nat} {A Q : List RT} {f : List Int} (h : ((a : Nat) : Int) ∉ M) : swp M a A none (tO f :: (fz r ++ Q)) = swp M (a + (f.length + 1) + r) A (some (f.length + r)) Q := by
  have h1 : ¬ (¬ (tO f).1 < 0 ∧ ((a : Nat) : Int) ∈ M) := fun z => h z.2
  rw [swp_cons, if_neg h1]
  cases r with
  | zero => rfl
  | succ n =>
    have h2 : ¬ (¬ (tF n).1 < 0 ∧ ((a + ((tO f).2.length + 1) : Nat) : Int) ∈ M) := fun z => z.1 (by simp only [tF]; omega)
    simp only [fz, List.singleton_append]
    rw [swp_cons, if_neg h2]
    simp only [tO, tF, List.length_replicate]
theorem swp_tail {M : List Int} {a r : Nat} {A : List RT} {f : List Int} (h : ((a : Nat) : Int) ∉ M) : swp M a A none (tO f :: fz r) = A ++ [tF (f.length + r)] := by
  have := swp_hole (A := A) (r := r) (Q := []) (f := f) h
  rw [List.append_nil] at this
  rw [this]
  rfl
noncomputable def MX (ro : Int → List Int) (pl : Int → Nat) (A B : List Int) (X Y : List RT) : List RT := T ro pl A ++ (X ++ (T ro pl B ++ Y))
theorem split_mem {s : Int} {L : List Int} (h : s ∈ L) : ∃ L1 L2, L = L1 ++ s :: L2 := List.append_of_mem h
theorem MX_at {A B : List Int} {X Y : List RT} {s : Int} (hn : (A ++ 4 :: B).Nodup) (hX : tsz X = (ro 4).length + 1) (h : s ∈ A ++ B) :
    ∃ P Q, MX ro pl A B X Y = P ++ tO ((ro s).map (la pl)) :: Q ∧ tsz P = plc ro (A ++ 4 :: B) s := by
  rcases List.mem_append.mp h with h | h
  · obtain ⟨L1, L2, rfl⟩ := split_mem h
    refine ⟨T ro pl L1, T ro pl L2 ++ (X ++ (T ro pl B ++ Y)), by simp [MX], ?_⟩
    rw [tsz_T, pl_mid hn (A := L1) (B := L2 ++ 4 :: B) (by simp)]
  · obtain ⟨L1, L2, rfl⟩ := split_mem h
    refine ⟨T ro pl A ++ (X ++ T ro pl L1), T ro pl L2 ++ Y, by simp [MX], ?_⟩
    rw [pl_mid hn (A := A ++ 4 :: L1) (B := L2) (by simp)]
    simp [hX]
theorem tm_at {P Q : List RT} {r : List Int} : tm (P ++ tO r :: Q) = tm P ++ ((r.length : Int) :: (r ++ tm Q)) := by simp [tO]
theorem tm_set {P Q : List RT} {r : List Int} {i : Nat} {v : Int} (h : i < r.length) : (tm (P ++ tO r :: Q)).set (tsz P + 1 + i) v = tm (P ++ tO (r.set i v) :: Q) := by
  rw [tm_at, tm_at, List.set_append_right _ _ (by simp; omega), tm_len, show tsz P + 1 + i - tsz P = i + 1 by omega, List.set_cons_succ, List.set_append_left _ _ h, List.length_set]
theorem all_set {f : Int → Bool} : ∀ {r : List Int} {i : Nat} {v : Int}, r.all f = true → i < r.length → (r.set i v).all f = f v
  | [], _, _, _, h => by simp at h
  | x :: r, 0, v, h, _ => by
    simp only [List.all_cons, Bool.and_eq_true] at h
    simp [h.2]
  | x :: r, i + 1, v, h, hi => by
    simp only [List.all_cons, Bool.and_eq_true] at h
    simp only [List.set_cons_succ, List.all_cons, h.1, Bool.true_and]
    exact all_set h.2 (by simpa using hi)
theorem filt_lt {F : FT} {ρ : Rho} {a : Nat} (ha : getV ρ 2 = .ok (.int (a : Nat))) : ∀ {R : List RT} {z : Nat}, z ≤ a → filterR (fun x => ev F ρ (some x) (E.cmp .lt (E.idx E.cv (E.int 0)) (E.var 2))) (fun x => ev F ρ (some x) E.cv) (blkT z R) = .ok (blkT z R) ∨ a < z + tsz R
  | [], z, _ => .inl rfl
  | t :: R, z, h => by
    rcases Nat.lt_or_ge a (z + (t.2.length + 1)) with q | q
    · right; simp; omega
    · rcases filt_lt (F := F) ha (R := R) (z := z + (t.2.length + 1)) q with ih | ih
      · left
        rw [blkT_cons, filterR]
        have b0 := bD0 (a := z) (t := t)
        have hlt : (z : Int) < (a : Int) := by omega
        have e1 : ev F ρ (some (bD z t)) (E.cmp .lt (E.idx E.cv (E.int 0)) (E.var 2)) = .ok (.bool true) := by simp [b0, ha, hlt]
        have e2 : ev F ρ (some (bD z t)) E.cv = .ok (bD z t) := rfl
        simp only [e1, e2, ih]
      · right; simp; omega
theorem filt_ge {F : FT} {ρ : Rho} {a : Nat} (ha : getV ρ 2 = .ok (.int (a : Nat))) : ∀ {R : List RT} {z : Nat}, a ≤ z → filterR (fun x => ev F ρ (some x) (E.cmp .lt (E.idx E.cv (E.int 0)) (E.var 2))) (fun x => ev F ρ (some x) E.cv) (blkT z R) = .ok []
  | [], z, _ => rfl
  | t :: R, z, h => by
    have ih := filt_ge (F := F) ha (R := R) (z := z + (t.2.length + 1)) (by omega)
    rw [blkT_cons, filterR]
    have b0 := bD0 (a := z) (t := t)
    have hlt : ¬ (z : Int) < (a : Int) := by omega
    have e1 : ev F ρ (some (bD z t)) (E.cmp .lt (E.idx E.cv (E.int 0)) (E.var 2)) = .ok (.bool false) := by simp [b0, ha, hlt]
    simp only [e1, ih]
theorem filterR_append {p f : PyData → R PyData} : ∀ {xs ys es fs : List PyData}, filterR p f xs = .ok es → filterR p f ys = .ok fs → filterR p f (xs ++ ys) = .ok (es ++ fs)
  | [], ys, es, fs, h1, h2 => by
    simp only [filterR] at h1
    cases h1
    simpa using h2
  | x :: xs, ys, es, fs, h1, h2 => by
    simp only [filterR, List.cons_append] at h1 ⊢
    split at h1
    · split at h1
      · split at h1
        · rename_i zs hz
          cases h1
          rw [filterR_append hz h2]
          rfl
        · cases h1
      · cases h1
    · exact filterR_append h1 h2
    · cases h1
end
end Mine.L1

-- K5
namespace Mine.L1
open PySem Mine

structure Cx where
  rts : List Int
  rows : List (List Int)
  met : Nat
  p : Nat
  num : Int
  A : List Int
  B : List Int
  tail : Nat
namespace Cx
variable (c : Cx)
noncomputable def pad : List Int := List.replicate c.p c.num
noncomputable def rows5 : List (List Int) := c.rows ++ [c.pad]
noncomputable def ro (k : Int) : List Int := c.rows5.getD k.toNat []
noncomputable def sq : List Int := c.A ++ 4 :: c.B
noncomputable def pl (k : Int) : Nat := plc c.ro c.sq k
noncomputable def at' : Nat := tot c.ro c.sq
noncomputable def held : List Int := c.rts.map (la c.pl)
noncomputable def lr (k : Int) : List Int := (c.ro k).map (la c.pl)
noncomputable def mx (X Y : List RT) : List RT := MX c.ro c.pl c.A c.B X Y
noncomputable def HT : List RT := c.mx [tF c.p] (fz c.tail)
noncomputable def MT : List RT := c.mx [tO c.pad] (fz c.tail)
noncomputable def keep : List Int := pls c.pl (c.A ++ c.B)
end Cx
structure Ok (c : Cx) : Prop where
  g : Gr c.rts c.rows c.met
  p2 : c.p ≤ 2
  t4 : c.tail ≤ 4
  n0 : 0 ≤ c.num
  ne : c.num % 2 = 0
  nd : c.sq.Nodup
  mem : ∀ s, s ∈ c.A ++ c.B ↔ 0 ≤ s ∧ s < 4
  b : c.B ≠ []
section
variable {c : Cx} (K : Ok c)
include K
theorem Ok.ro4 : c.ro 4 = c.pad := by
  have h4 := K.g.l4
  unfold Cx.ro Cx.rows5
  have : (4 : Int).toNat = c.rows.length := by rw [h4]; rfl
  rw [this, List.getD_eq_getElem?_getD]
  simp
theorem Ok.rok {k : Int} (h : 0 ≤ k ∧ k < 4) : c.ro k = c.rows.getD k.toNat [] ∧ c.ro k ∈ c.rows := by
  have h4 := K.g.l4
  have hl : k.toNat < c.rows.length := by rw [h4]; omega
  have e : c.ro k = c.rows.getD k.toNat [] := by
    unfold Cx.ro Cx.rows5
    rw [List.getD_eq_getElem?_getD, List.getD_eq_getElem?_getD, List.getElem?_append_left hl]
  refine ⟨e, ?_⟩
  rw [e, List.getD_eq_getElem?_getD, List.getElem?_eq_getElem hl]
  exact List.getElem_mem hl
theorem Ok.mem5 {s : Int} : s ∈ c.sq ↔ 0 ≤ s ∧ s < 5 := by
  unfold Cx.sq
  rw [List.mem_append, List.mem_cons]
  have := K.mem s
  rw [List.mem_append] at this
  constructor
  · rintro (h | h | h)
    · have := this.mp (.inl h); omega
    · omega
    · have := this.mp (.inr h); omega
  · intro h
    by_cases q : s = 4
    · exact .inr (.inl q)
    · rcases this.mpr (by omega) with z | z
      · exact .inl z
      · exact .inr (.inr z)
theorem Ok.row5 {k : Int} (h : k ∈ c.sq) : (c.ro k).length ≤ 2 ∧ ∀ w ∈ c.ro k, gw w := by
  rw [K.mem5] at h
  by_cases q : k = 4
  · subst q
    rw [K.ro4]
    refine ⟨by simpa [Cx.pad] using K.p2, fun w hw => ?_⟩
    have := List.eq_of_mem_replicate hw
    subst this
    exact ⟨K.n0, fun z => by have := K.ne; omega⟩
  · exact K.g.row _ (K.rok (by omega)).2
theorem Ok.pad_la {pl : Int → Nat} : c.pad.map (la pl) = c.pad := by
  unfold Cx.pad
  rw [List.map_replicate, la_even (by have := K.ne; omega)]
theorem Ok.lr4 : c.lr 4 = c.pad := by
  unfold Cx.lr
  rw [K.ro4, K.pad_la]
theorem Ok.nab : (c.A ++ c.B).Nodup ∧ (4 : Int) ∉ c.A ++ c.B := by
  refine ⟨?_, fun h => by have := (K.mem 4).mp h; omega⟩
  have h := K.nd
  unfold Cx.sq at h
  rw [List.nodup_append] at h ⊢
  obtain ⟨h1, h2, h3⟩ := h
  exact ⟨h1, (List.nodup_cons.mp h2).2, fun a ha b hb => h3 a ha b (.tail _ hb)⟩
theorem Ok.sq_len : c.sq.length ≤ 5 := by
  have := sub_len (K := [0, 1, 2, 3, 4]) K.nd (fun k hk => by
    have := K.mem5.mp hk
    simp only [List.mem_cons, List.not_mem_nil, or_false]
    omega)
  simpa using this
omit K in
theorem tot_le' {ro : Int → List Int} : ∀ {L : List Int}, (∀ k ∈ L, (ro k).length ≤ 2) → tot ro L ≤ 3 * L.length
  | [], _ => by simp
  | s :: L, h => by
    have := tot_le' (ro := ro) (L := L) fun k hk => h k (.tail _ hk)
    have := h s (.head _)
    simp
    omega
theorem Ok.at15 : c.at' ≤ 15 := by
  have := tot_le' (ro := c.ro) (L := c.sq) fun k hk => (K.row5 hk).1
  have := K.sq_len
  unfold Cx.at'
  omega
theorem Ok.at_eq : c.at' = tot c.ro c.A + (c.p + 1) + tot c.ro c.B := by
  unfold Cx.at' Cx.sq
  rw [tot_append, tot_cons, K.ro4, Cx.pad, List.length_replicate]
  omega
theorem Ok.pl4 : c.pl 4 = tot c.ro c.A := pl_mid K.nd rfl
theorem Ok.inj : ∀ k ∈ c.sq, ∀ k' ∈ c.sq, c.pl k = c.pl k' → k = k' := fun _ h _ h' e => plc_inj h h' e
theorem Ok.inj4 : ∀ k ∈ keys (H4 c.rows), ∀ k' ∈ keys (H4 c.rows), c.pl k = c.pl k' → k = k' := fun k h k' h' e => by
  rw [H4_keys, mem4] at h h'
  exact K.inj k (K.mem5.mpr (by omega)) k' (K.mem5.mpr (by omega)) e
theorem Ok.mx_ok {X Y : List RT} (hX : ∀ t ∈ X, Tk t) (hY : ∀ t ∈ Y, Tk t) : ∀ t ∈ c.mx X Y, Tk t := by
  intro t ht
  unfold Cx.mx MX at ht
  rcases List.mem_append.mp ht with h | h
  · exact T_ok t h
  · rcases List.mem_append.mp h with h | h
    · exact hX t h
    · rcases List.mem_append.mp h with h | h
      · exact T_ok t h
      · exact hY t h
theorem Ok.mx_sz {X Y : List RT} (hX : tsz X = c.p + 1) : tsz (c.mx X Y) = c.at' + tsz Y := by
  rw [K.at_eq]
  unfold Cx.mx MX
  simp [hX]
  omega
theorem Ok.mx_at {X Y : List RT} (hX : tsz X = c.p + 1) {s : Int} (h : 0 ≤ s ∧ s < 4) : ∃ P Q, c.mx X Y = P ++ tO (c.lr s) :: Q ∧ tsz P = c.pl s :=
  MX_at K.nd (by rw [K.ro4, Cx.pad, List.length_replicate]; exact hX) ((K.mem s).mpr h)
theorem Ok.fields {X Y : List RT} (hX : tsz X = c.p + 1) {s : Int} (h : 0 ≤ s ∧ s < 4) : fn 8 [LI (tm (c.mx X Y)), .int (c.pl s : Nat)] = .ok (LI (c.lr s)) := by
  obtain ⟨P, Q, e, hp⟩ := K.mx_at (Y := Y) hX h
  rw [e, tm_at, ← hp, ← tm_len]
  exact e_fields rfl
theorem Ok.lrH {s : Int} (h : 0 ≤ s ∧ s < 4) : c.lr s = (hrow (H4 c.rows) s).map (encP c.pl) := by
  unfold Cx.lr
  rw [H4_row h, (K.rok h).1, List.map_map]
  rfl
theorem Ok.heldH : c.held = (c.rts.map vw).map (encP c.pl) := by
  unfold Cx.held
  rw [List.map_map]
  rfl
theorem Ok.reach {X Y : List RT} (hX : tsz X = c.p + 1) : fn 11 [LI (tm (c.mx X Y)), LI c.held] = .ok (LI (pls c.pl (ks c.met))) := by
  rw [K.heldH, ← K.g.lv]
  refine e_reach K.inj4 (by rw [H4_keys]; decide) K.g.cl.1 (fun k hk => ?_) K.g.cl.2
  rw [H4_keys, mem4] at hk
  rw [K.fields hX hk, K.lrH hk]
omit K in
theorem ks_nodup {m : Nat} : (ks m).Nodup := by
  unfold ks
  refine List.Pairwise.map _ ?_ (List.nodup_range (n := m))
  intro a b h e
  exact h (by omega)
theorem Ok.met4 {k : Int} (h : k ∈ ks c.met) : 0 ≤ k ∧ k < 4 := by
  have := mem_ks.mp h
  have := K.g.le
  omega
omit K in
theorem rk_ks {m : Nat} {k : Int} (h : k ∈ ks m) : rk (ks m) k = k.toNat := by
  have hk := mem_ks.mp h
  have hlt : rk (ks m) k < (ks m).length := List.idxOf_lt_length_iff.mpr h
  have h2 : (ks m)[rk (ks m) k]? = some k := by
    rw [List.getElem?_eq_getElem hlt]
    exact congrArg some (List.getElem_idxOf hlt)
  rw [ks_at] at h2
  split at h2
  · have := Option.some.inj h2
    omega
  · cases h2
omit K in
theorem enc_rk {m : Nat} {w : Int} (h : w % 2 = 1 → w / 2 ∈ ks m) : encP (rk (ks m)) (vw w) = w := by
  unfold encP vw
  by_cases q : w % 2 = 1
  · rw [if_pos q]
    show 2 * ((rk (ks m) (w / 2) : Nat) : Int) + 1 = w
    have hk := mem_ks.mp (h q)
    rw [rk_ks (h q)]
    omega
  · rw [if_neg q]
    show 2 * (w / 2) = w
    omega
theorem Ok.live : (∀ k ∈ ks c.met, ∀ v ∈ hrow (H4 c.rows) k, v.1 = 1 → v.2 ∈ ks c.met) ∧ ∀ v ∈ c.rts.map vw, v.1 = 1 → v.2 ∈ ks c.met := by
  have := live_ok K.g.cl.1 K.g.cl.2
  rw [K.g.lv] at this
  exact ⟨this.2.2.1, this.2.2.2⟩
theorem Ok.shape {X Y : List RT} (hX : tsz X = c.p + 1) (hY : tsz Y ≤ 100) : fn 19 [LI (tm (c.mx X Y)), LI c.held] = .ok (.tuple [LI c.rts, .list (LL (c.rows.take c.met))]) := by
  have hlv := K.live
  have hsz := K.mx_sz (Y := Y) hX
  have h15 := K.at15
  have hks : (ks c.met).length ≤ 4 := by simp [ks]; exact K.g.le
  have e := e_shape (H := H4 c.rows) (pl := c.pl) (mem := tm (c.mx X Y)) (vs := c.rts.map vw) (C := ks c.met) (by rw [← K.heldH]; exact K.reach hX) ks_nodup
    (fun k h k' h' e => K.inj k (K.mem5.mpr (by have := K.met4 h; omega)) k' (K.mem5.mpr (by have := K.met4 h'; omega)) e)
    (fun k h => by
      obtain ⟨P, Q, e, hp⟩ := K.mx_at (Y := Y) hX (K.met4 h)
      rw [e, tm_len, ← hp]
      simp
      omega)
    hlv.1 (fun k h => by rw [K.fields hX (K.met4 h), K.lrH (K.met4 h)]) hlv.2 (by rw [tm_len, hsz]; omega) (by omega)
  rw [← K.heldH] at e
  rw [e]
  have e1 : (c.rts.map vw).map (encP (rk (ks c.met))) = c.rts := by
    rw [List.map_map]
    conv => rhs; rw [← List.map_id c.rts]
    refine List.map_congr_left fun w hw => ?_
    exact enc_rk fun q => hlv.2 (vw w) (List.mem_map.mpr ⟨w, hw, rfl⟩) q
  have e2 : (ks c.met).map (fun k => LI ((hrow (H4 c.rows) k).map (encP (rk (ks c.met))))) = LL (c.rows.take c.met) := by
    have hr : ∀ k ∈ ks c.met, LI ((hrow (H4 c.rows) k).map (encP (rk (ks c.met)))) = LI (c.rows.getD k.toNat []) := by
      intro k hk
      rw [H4_row (K.met4 hk), List.map_map]
      congr 1
      conv => rhs; rw [← List.map_id (c.rows.getD k.toNat [])]
      refine List.map_congr_left fun w hw => ?_
      exact enc_rk fun q => hlv.1 k hk (vw w) (by rw [H4_row (K.met4 hk)]; exact List.mem_map.mpr ⟨w, hw, rfl⟩) q
    rw [List.map_congr_left hr]
    unfold LL ks
    apply List.ext_getElem?
    intro i
    rw [List.getElem?_map, List.getElem?_map, List.getElem?_map]
    have hle := K.g.le
    have h4 := K.g.l4
    by_cases q : i < c.met
    · rw [List.getElem?_range q, List.getElem?_take_of_lt q]
      simp [List.getElem?_eq_getElem (show i < c.rows.length by omega)]
    · rw [List.getElem?_eq_none (by simp; omega), List.getElem?_eq_none (by simp; omega)]
      rfl
  rw [e1, e2]
theorem Ok.livew {X Y : List RT} (hX : tsz X = c.p + 1) : fn 12 [LI (tm (c.mx X Y)), LI c.held] = .ok (.int (((c.rows.take c.met).map fun r => r.length + 1).sum : Nat)) := by
  have e := e_livew (H := H4 c.rows) (pl := c.pl) (K.reach (Y := Y) hX) (fun k h => by
    obtain ⟨P, Q, e, hp⟩ := K.mx_at (Y := Y) hX (K.met4 h)
    rw [e, tm_at, ← hp, ← tm_len, List.getElem?_append_right (Nat.le_refl _), Nat.sub_self]
    rw [K.lrH (K.met4 h)]
    simp)
  rw [e]
  have : (ks c.met).map (fun k => (hrow (H4 c.rows) k).length + 1) = (c.rows.take c.met).map fun r => r.length + 1 := by
    have hr : ∀ k ∈ ks c.met, (hrow (H4 c.rows) k).length + 1 = (c.rows.getD k.toNat []).length + 1 := by
      intro k hk
      rw [H4_row (K.met4 hk)]
      simp
    rw [List.map_congr_left hr]
    unfold ks
    apply List.ext_getElem?
    intro i
    rw [List.getElem?_map, List.getElem?_map, List.getElem?_map]
    have hle := K.g.le
    have h4 := K.g.l4
    by_cases q : i < c.met
    · rw [List.getElem?_range q, List.getElem?_take_of_lt q]
      simp [List.getElem?_eq_getElem (show i < c.rows.length by omega)]
    · rw [List.getElem?_eq_none (by simp; omega), List.getElem?_eq_none (by simp; omega)]
      rfl
  rw [this]
end
end Mine.L1

-- K6
namespace Mine.L1
open PySem Mine

section
variable {c : Cx} (K : Ok c)
include K
theorem Ok.mem_keep {k : Int} (h : 0 ≤ k ∧ k < 5) : ((c.pl k : Nat) : Int) ∈ c.keep ↔ k ≠ 4 := by
  unfold Cx.keep pls
  rw [List.mem_map]
  constructor
  · rintro ⟨j, hj, e⟩ rfl
    have hj4 := (K.mem j).mp hj
    have := K.inj j (K.mem5.mpr (by omega)) 4 (K.mem5.mpr (by omega)) (by omega)
    omega
  · intro hk
    exact ⟨k, (K.mem k).mpr (by omega), rfl⟩
theorem Ok.at_keep : ((c.at' : Nat) : Int) ∉ c.keep := by
  unfold Cx.keep pls
  rw [List.mem_map]
  rintro ⟨j, hj, e⟩
  have hj4 := (K.mem j).mp hj
  have := plc_lt (ro := c.ro) (K.mem5.mpr (show 0 ≤ j ∧ j < 5 by omega))
  have e2 : c.pl j = c.at' := by omega
  unfold Cx.pl Cx.at' at e2
  omega
theorem Ok.sqA : c.sq = [] ++ (c.A ++ 4 :: c.B) := rfl
theorem Ok.sqB : c.sq = (c.A ++ [4]) ++ (c.B ++ []) := by unfold Cx.sq; simp
theorem Ok.inA {s : Int} (h : s ∈ c.A) : ((plc c.ro c.sq s : Nat) : Int) ∈ c.keep := by
  have := (K.mem s).mp (List.mem_append_left _ h)
  exact (K.mem_keep (k := s) (by omega)).mpr (by omega)
theorem Ok.inB {s : Int} (h : s ∈ c.B) : ((plc c.ro c.sq s : Nat) : Int) ∈ c.keep := by
  have := (K.mem s).mp (List.mem_append_right _ h)
  exact (K.mem_keep (k := s) (by omega)).mpr (by omega)
theorem Ok.swpB {Y : List RT} {a : Nat} (ha : a = tot c.ro c.A + (c.p + 1)) : swp c.keep a (T c.ro c.pl c.A) (some c.p) (T c.ro c.pl c.B ++ Y) = swp c.keep c.at' (T c.ro c.pl c.A ++ tF c.p :: T c.ro c.pl c.B) none Y := by
  have hl := allLive_T (pl := c.pl) (ro := c.ro) (M := c.keep) K.nd K.sqB fun s hs => K.inB hs
  rw [tot_append, tot_cons, tot_nil, K.ro4, Cx.pad, List.length_replicate, Nat.add_zero, ← ha] at hl
  obtain ⟨b, B', hB⟩ := List.exists_cons_of_ne_nil K.b
  have hat : c.at' = a + tsz (T c.ro c.pl c.B) := by rw [tsz_T, K.at_eq, ha]
  rw [hat]
  rw [hB] at hl ⊢
  exact swp_live' hl
theorem Ok.swpA {R : List RT} : swp c.keep 0 [] none (T c.ro c.pl c.A ++ R) = swp c.keep (tot c.ro c.A) (T c.ro c.pl c.A) none R := by
  have hl := allLive_T (pl := c.pl) (ro := c.ro) (M := c.keep) K.nd K.sqA fun s hs => K.inA hs
  rw [tot_nil] at hl
  rw [swp_live hl, tsz_T, Nat.zero_add, List.nil_append]
theorem Ok.swp1 {Y : List RT} {f : List Int} {r : Nat} (h : f.length + r = c.p) : swp c.keep 0 [] none (c.mx (tO f :: fz r) Y) = swp c.keep c.at' (T c.ro c.pl c.A ++ tF c.p :: T c.ro c.pl c.B) none Y := by
  unfold Cx.mx MX
  rw [K.swpA, List.cons_append, swp_hole (by rw [← K.pl4]; exact fun z => (K.mem_keep (k := 4) (by omega)).mp z rfl), h]
  exact K.swpB (by omega)
theorem Ok.swp2 {Y : List RT} : swp c.keep 0 [] none (c.mx [tF c.p] Y) = swp c.keep c.at' (T c.ro c.pl c.A ++ tF c.p :: T c.ro c.pl c.B) none Y := by
  unfold Cx.mx MX
  have h2 : ¬ (¬ (tF c.p).1 < 0 ∧ ((tot c.ro c.A : Nat) : Int) ∈ c.keep) := fun z => z.1 (by simp only [tF]; omega)
  rw [K.swpA, List.singleton_append, swp_cons, if_neg h2]
  simp only [tF, List.length_replicate]
  exact K.swpB rfl
theorem Ok.hole {f : List Int} {r : Nat} (h : f.length + r = c.p) : swp c.keep 0 [] none (c.mx (tO f :: fz r) (fz c.tail)) = c.HT := by
  rw [K.swp1 h, swp_fz]
  simp [Cx.HT, Cx.mx, MX]
theorem Ok.hole2 {f : List Int} {r : Nat} (h : f.length + 1 + r = c.tail) : swp c.keep 0 [] none (c.mx [tF c.p] (tO f :: fz r)) = c.HT := by
  rw [K.swp2, swp_tail K.at_keep, Cx.HT, ← h, show f.length + 1 + r = (f.length + r) + 1 by omega]
  simp [Cx.mx, MX, fz]
theorem Ok.szX : tsz [tF c.p] = c.p + 1 := by simp [tF]
theorem Ok.szO {f : List Int} {r : Nat} (h : f.length + r = c.p) : tsz (tO f :: fz r) = c.p + 1 := by
  simp only [tsz_cons, fz_sz, tO]; omega
theorem Ok.okX : ∀ t ∈ [tF c.p], Tk t := fun t h => by
  rw [List.mem_singleton] at h; subst h; exact Tk.f
omit K in
theorem okO {f : List Int} {r : Nat} : ∀ t ∈ tO f :: fz r, Tk t := fun t h => by
  rcases List.mem_cons.mp h with rfl | h
  · exact Tk.o
  · exact fz_ok t h
theorem Ok.HTok : ∀ t ∈ c.HT, Tk t := K.mx_ok K.okX fz_ok
theorem Ok.HTsz : tsz c.HT = c.at' + c.tail := by rw [Cx.HT, K.mx_sz K.szX, fz_sz]
theorem Ok.HTle : tsz c.HT ≤ 1000 := by rw [K.HTsz]; have := K.at15; have := K.t4; omega
theorem Ok.heads : heads 0 c.HT = c.keep := by
  unfold Cx.HT Cx.mx MX Cx.keep
  have h1 := heads_T (pl := c.pl) (ro := c.ro) K.nd K.sqA
  have h2 := heads_T (pl := c.pl) (ro := c.ro) K.nd K.sqB
  rw [tot_nil] at h1
  rw [tot_append, tot_cons, tot_nil, K.ro4, Cx.pad, List.length_replicate, Nat.add_zero] at h2
  rw [heads_append, heads_append, heads_append, h1, Nat.zero_add, tsz_T, K.szX, tsz_T, h2]
  have h3 : Mine.heads (tot c.ro c.A) [tF c.p] = [] := by
    have : (tF c.p).1 < 0 := by simp only [tF]; omega
    simp [Mine.heads, this]
  have h4 : ∀ {a n : Nat}, Mine.heads a (fz n) = [] := fun {a n} => by
    cases n with
    | zero => rfl
    | succ n =>
      have : (tF n).1 < 0 := by simp only [tF]; omega
      simp [fz, Mine.heads, this]
  rw [h3, h4]
  simp [pls, Cx.pl]
omit K in
theorem frw_T {ro : Int → List Int} {pl : Int → Nat} : ∀ {L : List Int}, frw (T ro pl L) = 0
  | [] => rfl
  | s :: L => by
    have : ¬ (tO ((ro s).map (la pl))).1 < 0 := by simp only [tO]; omega
    rw [T_cons, frw, if_neg this, frw_T]
omit K in
theorem frw_F {n : Nat} : frw [tF n] = n + 1 := by
  have : (tF n).1 < 0 := by simp only [tF]; omega
  simp [frw, this, tF]
omit K in
theorem frw_fz : ∀ {n : Nat}, frw (fz n) = n
  | 0 => rfl
  | n + 1 => frw_F
theorem Ok.frw : frw c.HT = c.p + 1 + c.tail := by
  unfold Cx.HT Cx.mx MX
  rw [frw_append, frw_append, frw_append, frw_T, frw_T, frw_F, frw_fz]
  omega
omit K in
theorem flds_T {ro : Int → List Int} {pl : Int → Nat} : ∀ {L : List Int} {w : Int}, w ∈ flds (T ro pl L) → ∃ s ∈ L, w ∈ (ro s).map (la pl)
  | s :: L, w, h => by
    have : ¬ (tO ((ro s).map (la pl))).1 < 0 := by simp only [tO]; omega
    rw [T_cons, flds, if_neg this] at h
    rcases List.mem_append.mp h with h | h
    · exact ⟨s, .head _, h⟩
    · obtain ⟨u, hu, e⟩ := flds_T h
      exact ⟨u, .tail _ hu, e⟩
omit K in
theorem flds_fz : ∀ {n : Nat}, flds (fz n) = []
  | 0 => rfl
  | n + 1 => by
    have : (tF n).1 < 0 := by simp only [tF]; omega
    simp [fz, flds, this]
theorem Ok.la_ok {w : Int} (h : gw w) : wOk c.keep (la c.pl w) = true := by
  unfold wOk
  rw [decide_eq_true_eq]
  by_cases q : w % 2 = 1
  · have hr := h.2 q
    rw [la_odd q]
    refine ⟨by omega, fun _ => ?_⟩
    have : (2 * ((c.pl (w / 2) : Nat) : Int) + 1) / 2 = ((c.pl (w / 2) : Nat) : Int) := by omega
    rw [this]
    exact (K.mem_keep (by omega)).mpr (by omega)
  · rw [la_even q]
    exact ⟨h.1, fun z => absurd z q⟩
theorem Ok.lr_ok {s : Int} (h : 0 ≤ s ∧ s < 5) : (c.lr s).all (wOk c.keep) = true := by
  rw [List.all_eq_true]
  intro w hw
  obtain ⟨u, hu, rfl⟩ := List.mem_map.mp hw
  exact K.la_ok ((K.row5 (K.mem5.mpr h)).2 u hu)
theorem Ok.held_ok : c.held.all (wOk c.keep) = true := by
  rw [List.all_eq_true]
  intro w hw
  obtain ⟨u, hu, rfl⟩ := List.mem_map.mp hw
  exact K.la_ok (K.g.rg u hu)
theorem Ok.flds_ok : (flds c.HT).all (wOk c.keep) = true := by
  rw [List.all_eq_true]
  intro w hw
  unfold Cx.HT Cx.mx MX at hw
  have h3 : flds [tF c.p] = [] := flds_fz (n := c.p + 1)
  rw [flds_append, flds_append, flds_append, h3, flds_fz, List.nil_append, List.append_nil] at hw
  have : ∃ s, (0 ≤ s ∧ s < 4) ∧ w ∈ c.lr s := by
    rcases List.mem_append.mp hw with h | h
    · obtain ⟨s, hs, e⟩ := flds_T h
      exact ⟨s, (K.mem s).mp (List.mem_append_left _ hs), e⟩
    · obtain ⟨s, hs, e⟩ := flds_T h
      exact ⟨s, (K.mem s).mp (List.mem_append_right _ hs), e⟩
  obtain ⟨s, hs, e⟩ := this
  exact List.all_eq_true.mp (K.lr_ok (s := s) (by omega)) w e
theorem Ok.held_len : c.held.length = 3 := by unfold Cx.held; rw [List.length_map]; exact K.g.l3
theorem Ok.memok {ws : List Int} (h : ws.length ≤ 100) : fn 13 [LI (tm c.HT), LI (c.held ++ ws)] = .ok (.bool (ws.all (wOk c.keep))) := by
  rw [e_memok K.HTok K.HTle (by rw [List.length_append, K.held_len]; omega), K.heads, List.all_append, List.all_append, K.held_ok, K.flds_ok, Bool.true_and, Bool.and_true]
theorem Ok.put {s : Int} {i : Nat} {w : Int} (h : 0 ≤ s ∧ s < 4) (hi : i < (c.lr s).length) :
    fn 14 [LI (tm c.HT), .int (c.pl s : Nat), .int (i : Nat), .int w] = .ok (LI ((tm c.HT).set (c.pl s + 1 + i) w)) ∧ fn 13 [LI ((tm c.HT).set (c.pl s + 1 + i) w), LI c.held] = .ok (.bool (wOk c.keep w)) ∧
    fn 8 [LI ((tm c.HT).set (c.pl s + 1 + i) w), .int (c.pl s : Nat)] = .ok (LI ((c.lr s).set i w)) ∧
    fn 14 [LI ((tm c.HT).set (c.pl s + 1 + i) w), .int (c.pl s : Nat), .int (i : Nat), .int (c.lr s)[i]] = .ok (LI (tm c.HT)) := by
  obtain ⟨P, Q, e, hp⟩ := K.mx_at (Y := fz c.tail) K.szX h
  have e : c.HT = P ++ tO (c.lr s) :: Q := e
  have hle := K.HTle
  have hok := K.HTok
  have hh := K.heads
  have hf := K.flds_ok
  rw [e] at hle hok hh hf
  have n1 : ∀ {r : List Int}, ¬ (tO r).1 < 0 := fun {r} => by simp only [tO]; omega
  have hlt : c.pl s + 1 + i < (tm (P ++ tO (c.lr s) :: Q)).length := by
    rw [tm_len, tsz_append, tsz_cons, hp]; simp only [tO]; omega
  have hset : (tm (P ++ tO (c.lr s) :: Q)).set (c.pl s + 1 + i) w = tm (P ++ tO ((c.lr s).set i w) :: Q) := by rw [← hp]; exact tm_set hi
  rw [e]
  refine ⟨e_with hlt, ?_, ?_, ?_⟩
  · rw [hset, e_memok ?_ ?_ (by rw [K.held_len]; omega)]
    · have hh2 : Mine.heads 0 (P ++ tO ((c.lr s).set i w) :: Q) = c.keep := by
        rw [← hh, heads_append, heads_append, Mine.heads, Mine.heads, if_neg n1, if_neg n1]
        simp [tO]
      rw [hh2, List.all_append, K.held_ok, Bool.true_and]
      rw [flds_append, List.all_append, flds, if_neg n1, List.all_append, Bool.and_eq_true, Bool.and_eq_true] at hf
      rw [flds_append, List.all_append, flds, if_neg n1, List.all_append]
      have := all_set (v := w) hf.2.1 hi
      simp only [tO] at this ⊢
      rw [this, hf.1, hf.2.2]
      simp
    · intro t ht
      rcases List.mem_append.mp ht with z | z
      · exact hok t (List.mem_append_left _ z)
      · rcases List.mem_cons.mp z with rfl | z
        · exact Tk.o
        · exact hok t (List.mem_append_right _ (.tail _ z))
    · simp only [tsz_append, tsz_cons, tO, List.length_set] at hle ⊢
      exact hle
  · rw [hset, tm_at, ← hp, ← tm_len]
    exact e_fields rfl
  · have := e_with (m := (tm (P ++ tO (c.lr s) :: Q)).set (c.pl s + 1 + i) w) (a := c.pl s) (i := i) (w := (c.lr s)[i]) (by rw [List.length_set]; exact hlt)
    rw [this, List.set_set, ← hp, tm_set hi, List.set_getElem_self]
end
end Mine.L1

-- K7
namespace Mine.L1
open PySem Mine

section
variable {c : Cx} (K : Ok c)
include K
theorem Ok.al1 {f : List Int} (h : f.length ≤ c.p) : fn 6 [LI (tm c.HT), LI f] = .ok (.tuple [LI (tm (c.mx (tO f :: fz (c.p - f.length)) (fz c.tail))), .int (c.pl 4 : Nat)]) := by
  have e : c.HT = T c.ro c.pl c.A ++ tF c.p :: (T c.ro c.pl c.B ++ fz c.tail) := by simp [Cx.HT, Cx.mx, MX]
  have hok := K.HTok
  have hle := K.HTle
  rw [e] at hok hle ⊢
  rw [e_alloc hok h T_noFit (by simp only [tsz_append, tsz_cons, tF, List.length_replicate] at hle ⊢; omega), frem_fz, tsz_T, K.pl4]
  have : T c.ro c.pl c.A ++ tO f :: (fz (c.p - f.length) ++ (T c.ro c.pl c.B ++ fz c.tail)) = c.mx (tO f :: fz (c.p - f.length)) (fz c.tail) := by simp [Cx.mx, MX]
  rw [this]
theorem Ok.noF {f : List Int} (h : c.p < f.length) : ∀ t ∈ c.mx [tF c.p] [], noFit f.length t := by
  intro t ht
  unfold Cx.mx MX at ht
  rw [List.append_nil] at ht
  rcases List.mem_append.mp ht with z | z
  · exact T_noFit t z
  · rcases List.mem_append.mp z with z | z
    · rw [List.mem_singleton] at z
      subst z
      rintro ⟨_, h2⟩
      simp only [tF, List.length_replicate] at h2
      omega
    · exact T_noFit t z
theorem Ok.al2 {f : List Int} {n : Nat} (h : c.p < f.length) (hn : c.tail = n + 1) (hf : f.length ≤ n) : fn 6 [LI (tm c.HT), LI f] = .ok (.tuple [LI (tm (c.mx [tF c.p] (tO f :: fz (n - f.length)))), .int (c.at' : Nat)]) := by
  have e : c.HT = c.mx [tF c.p] [] ++ tF n :: [] := by simp [Cx.HT, Cx.mx, MX, hn, fz]
  have hok := K.HTok
  have hle := K.HTle
  rw [e] at hok hle ⊢
  rw [e_alloc hok hf (K.noF h) (by simp only [tsz_append, tsz_cons, tF, List.length_replicate] at hle ⊢; omega), frem_fz, K.mx_sz K.szX]
  have : c.mx [tF c.p] [] ++ tO f :: (fz (n - f.length) ++ []) = c.mx [tF c.p] (tO f :: fz (n - f.length)) := by simp [Cx.mx, MX]
  rw [this]
  simp
theorem Ok.al3 {f : List Int} (h : c.p < f.length) (hn : c.tail ≤ f.length) (h4 : f.length ≤ 4) : fn 6 [LI (tm c.HT), LI f] = .exc .oom := by
  refine e_alloc_oom K.HTok K.HTle (fun t ht => ?_) h4
  have e : c.HT = c.mx [tF c.p] [] ++ fz c.tail := by simp [Cx.HT, Cx.mx, MX]
  rw [e] at ht
  rcases List.mem_append.mp ht with z | z
  · exact K.noF h t z
  · rintro ⟨_, h2⟩
    revert z h2
    cases hc : c.tail with
    | zero => intro z; cases z
    | succ n =>
      intro z h2
      simp only [fz, List.mem_singleton] at z
      subst z
      simp only [tF, List.length_replicate] at h2
      omega
theorem Ok.wA : (tm c.HT).take (c.pl 4) = tm (T c.ro c.pl c.A) ∧ (tm c.HT).drop (c.pl 4 + (c.p + 1)) = tm (T c.ro c.pl c.B) ++ free c.tail := by
  have e : tm c.HT = tm (T c.ro c.pl c.A) ++ (free (c.p + 1) ++ (tm (T c.ro c.pl c.B) ++ free c.tail)) := by
    have h0 : tm [tF c.p] = free (c.p + 1) := tm_fz (n := c.p + 1)
    unfold Cx.HT Cx.mx MX
    rw [tm_append, tm_append, tm_append, h0, tm_fz]
  have hA : (tm (T c.ro c.pl c.A)).length = c.pl 4 := by rw [tm_len, tsz_T, K.pl4]
  rw [e, K.pl4] at *
  constructor
  · rw [List.take_left' (by rw [tm_len, tsz_T])]
  · rw [← List.append_assoc, List.drop_left' (by simp)]
theorem Ok.wB : (tm c.HT).take c.at' = tm (c.mx [tF c.p] []) ∧ (tm c.HT).drop (c.at' + c.tail) = [] := by
  have e : c.HT = c.mx [tF c.p] [] ++ fz c.tail := by simp [Cx.HT, Cx.mx, MX]
  have h := K.mx_sz (Y := []) K.szX
  rw [tsz_nil, Nat.add_zero] at h
  rw [e]
  constructor
  · rw [tm_append, List.take_left' (by rw [tm_len, h])]
  · rw [List.drop_eq_nil_of_le]
    rw [tm_len, tsz_append, h, fz_sz]
    exact Nat.le_refl _
theorem Ok.want1 {f : List Int} (h : f.length ≤ c.p) : tm (c.mx (tO f :: fz (c.p - f.length)) (fz c.tail)) = (tm c.HT).take (c.pl 4) ++ [(f.length : Int)] ++ f ++ free (c.p - f.length) ++ (tm c.HT).drop (c.pl 4 + (c.p + 1)) := by
  rw [K.wA.1, K.wA.2]
  unfold Cx.mx MX
  simp only [tm_append, tm_cons, tm_fz, tO]
  simp
theorem Ok.want2 {f : List Int} {n : Nat} (hn : c.tail = n + 1) (hf : f.length ≤ n) : tm (c.mx [tF c.p] (tO f :: fz (n - f.length))) = (tm c.HT).take c.at' ++ [(f.length : Int)] ++ f ++ free (n - f.length) ++ (tm c.HT).drop (c.at' + c.tail) := by
  rw [K.wB.1, K.wB.2]
  unfold Cx.mx MX
  simp only [tm_append, tm_cons, tm_fz, tO]
  simp
theorem Ok.fx1 {f : List Int} (h : f.length ≤ c.p) : fn 8 [LI (tm (c.mx (tO f :: fz (c.p - f.length)) (fz c.tail))), .int (c.pl 4 : Nat)] = .ok (LI f) := by
  have e : c.mx (tO f :: fz (c.p - f.length)) (fz c.tail) = T c.ro c.pl c.A ++ tO f :: (fz (c.p - f.length) ++ (T c.ro c.pl c.B ++ fz c.tail)) := by simp [Cx.mx, MX]
  rw [e, tm_at, K.pl4, ← tsz_T (pl := c.pl), ← tm_len]
  exact e_fields rfl
theorem Ok.fx2 {f : List Int} {r : Nat} : fn 8 [LI (tm (c.mx [tF c.p] (tO f :: fz r))), .int (c.at' : Nat)] = .ok (LI f) := by
  have e : c.mx [tF c.p] (tO f :: fz r) = c.mx [tF c.p] [] ++ tO f :: fz r := by simp [Cx.mx, MX]
  have h := K.mx_sz (Y := []) K.szX
  rw [tsz_nil, Nat.add_zero] at h
  rw [e, tm_at, ← h, ← tm_len]
  exact e_fields rfl
theorem Ok.badE {s : Int} (h : 0 ≤ s ∧ s < 4) {v : Int} : ∃ P Q, c.HT = P ++ tO (c.lr s) :: Q ∧ tsz P = c.pl s ∧ (tm c.HT).take (c.pl s) ++ [v] ++ (tm c.HT).drop (c.pl s + 1) = tm P ++ v :: (c.lr s ++ tm Q) := by
  obtain ⟨P, Q, e, hp⟩ := K.mx_at (Y := fz c.tail) K.szX h
  have e : c.HT = P ++ tO (c.lr s) :: Q := e
  refine ⟨P, Q, e, hp, ?_⟩
  have hl : (tm P).length = c.pl s := by rw [tm_len, hp]
  rw [e, tm_at, List.take_left' hl, ← hl, ← List.drop_drop, List.drop_left]
  simp
theorem Ok.bad0 {s : Int} (h : 0 ≤ s ∧ s < 4) : ∃ P Q, c.HT = P ++ tO (c.lr s) :: Q ∧ tsz P = c.pl s ∧
    fn 4 [LI ((tm c.HT).take (c.pl s) ++ [((tsz c.HT : Nat) : Int) - (c.pl s : Nat) - 1 + 0] ++ (tm c.HT).drop (c.pl s + 1))] = .ok (.list (blkT 0 P ++ [.tuple [.int (c.pl s : Nat), .int (((tsz c.HT : Nat) : Int) - (c.pl s : Nat)), .bool false]])) := by
  obtain ⟨P, Q, e, hp, he⟩ := K.badE h (v := ((tsz c.HT : Nat) : Int) - (c.pl s : Nat) - 1 + 0)
  refine ⟨P, Q, e, hp, ?_⟩
  rw [he]
  have hsz : tsz c.HT = c.pl s + ((c.lr s).length + 1 + tsz Q) := by rw [e, ← hp]; simp [tO]
  have hv : ((tsz c.HT : Nat) : Int) - (c.pl s : Nat) - 1 + 0 = (((c.lr s ++ tm Q).length : Nat) : Int) := by
    rw [hsz, List.length_append, tm_len]; omega
  have h1 : tm P ++ (((c.lr s ++ tm Q).length : Nat) : Int) :: (c.lr s ++ tm Q) = tm (P ++ [tO (c.lr s ++ tm Q)]) := by simp [tO]
  have hok := K.HTok
  rw [e] at hok
  rw [hv, h1, e_blocks]
  · rw [blkT_append, hp, Nat.zero_add]
    have h2 : ((c.lr s ++ tm Q).length : Int) + 1 = ((tsz c.HT : Nat) : Int) - (c.pl s : Nat) := by rw [hsz, List.length_append, tm_len]; omega
    have h3 : ¬ (((c.lr s ++ tm Q).length : Nat) : Int) < 0 := by omega
    simp only [blkT_cons, blkT_nil, bD, tO, h2, h3, decide_false]
  · intro t ht
    rcases List.mem_append.mp ht with z | z
    · exact hok t (List.mem_append_left _ z)
    · rw [List.mem_singleton] at z
      subst z
      exact Tk.o
  · have := K.HTle
    rw [hsz] at this
    rw [tsz_append, hp]
    simp [tO]
    omega
theorem Ok.bad1 {s : Int} (h : 0 ≤ s ∧ s < 4) : fn 4 [LI ((tm c.HT).take (c.pl s) ++ [((tsz c.HT : Nat) : Int) - (c.pl s : Nat) - 1 + 1] ++ (tm c.HT).drop (c.pl s + 1))] = .ok .none := by
  obtain ⟨P, Q, e, hp, he⟩ := K.badE h (v := ((tsz c.HT : Nat) : Int) - (c.pl s : Nat) - 1 + 1)
  rw [he]
  have hsz : tsz c.HT = c.pl s + ((c.lr s).length + 1 + tsz Q) := by rw [e, ← hp]; simp [tO]
  have hok := K.HTok
  rw [e] at hok
  have hle := K.HTle
  rw [hsz] at hle
  refine e_blocks_bad (fun t ht => hok t (List.mem_append_left _ ht)) (by rw [hp, List.length_append, tm_len]; omega) ?_
  unfold nOf
  rw [hsz, List.length_append, tm_len, if_pos (by omega)]
  omega
end
end Mine.L1

-- K8
namespace Mine.L1
open PySem Mine

theorem Fg.bool {n : Nat} {b : Bool} : Fg n (.bool b) := ⟨by simp [PyData.canLay0], by simp [PyData.depth]⟩
theorem Fg.tup2 {n : Nat} {a b : PyData} (h1 : Fg n a) (h2 : Fg n b) : Fg (n + 1) (.tuple [a, b]) := Fg.tup fun x hx => by
  rcases List.mem_cons.mp hx with rfl | hx
  · exact h1
  · rw [List.mem_singleton] at hx; subst hx; exact h2
theorem Fg.bD {n a : Nat} {t : RT} : Fg (n + 1) (bD a t) := Fg.tup fun x hx => by
  rcases List.mem_cons.mp hx with rfl | hx
  · exact Fg.int
  · rcases List.mem_cons.mp hx with rfl | hx
    · exact Fg.int
    · rw [List.mem_singleton] at hx; subst hx; exact Fg.bool
theorem Fg.blkT {n : Nat} : ∀ {R : List RT} {a : Nat}, ∀ x ∈ blkT a R, Fg (n + 1) x
  | t :: R, a, x, h => by
    rcases List.mem_cons.mp h with rfl | h
    · exact Fg.bD
    · exact Fg.blkT x h
theorem Fg.LL {n : Nat} {rows : List (List Int)} : Fg (n + 2) (.list (LL rows)) := Fg.list fun x hx => by
  obtain ⟨r, _, rfl⟩ := List.mem_map.mp hx
  exact Fg.LI
theorem cmp_eq_self {n : Nat} {d : PyData} (h : Fg n d) (hn : n ≤ 64) : cmpD .eq d d = .ok (.bool true) := by
  rw [cmp_eq_sh (h.sh hn) (h.sh hn), eqv_refl d h.c]
theorem neS {m : List Int} : cmpD .ne (LI m) (LI m) = .ok (.bool false) := cmp_ne_self (n := 1) Fg.LI (by omega)
theorem neI {m : Int} : cmpD .ne (.int m) (.int m) = .ok (.bool false) := cmp_ne_self (n := 0) Fg.int (by omega)
theorem neB {m : Bool} : cmpD .ne (.bool m) (.bool m) = .ok (.bool false) := cmp_ne_self (n := 0) Fg.bool (by omega)
theorem neP {m : List Int} {a : Int} : cmpD .ne (.tuple [LI m, .int a]) (.tuple [LI m, .int a]) = .ok (.bool false) := cmp_ne_self (n := 2) (Fg.tup2 Fg.LI Fg.int) (by omega)
theorem neQ {m : List Int} {rows : List (List Int)} : cmpD .ne (.tuple [LI m, .list (LL rows)]) (.tuple [LI m, .list (LL rows)]) = .ok (.bool false) := cmp_ne_self (n := 3) (Fg.tup2 (Fg.LI.up (n := 1) (by omega)) Fg.LL) (by omega)
theorem neK {R : List RT} {a : Nat} : cmpD .ne (.list (blkT a R)) (.list (blkT a R)) = .ok (.bool false) := cmp_ne_self (n := 2) (Fg.list Fg.blkT) (by omega)
theorem addI {m n : List Int} (h : m.length + n.length ≤ 1000) : binD .add (LI m) (LI n) = .ok (LI (m ++ n)) := addL (by omega)
theorem toI {m : List Int} {a : Nat} : slToD (LI m) (.int (a : Nat)) = .ok (LI (m.take a)) := by
  have h0 : (0 : Int) ≤ (a : Nat) := by omega
  have h1 : ((a : Nat) : Int).toNat = a := by omega
  simp only [slToD, LI, if_pos h0, h1, List.map_take]
theorem fromI {m : List Int} {a : Nat} : slFromD (LI m) (.int (a : Nat)) = .ok (LI (m.drop a)) := by
  have h0 : (0 : Int) ≤ (a : Nat) := by omega
  have h1 : ((a : Nat) : Int).toNat = a := by omega
  simp only [slFromD, LI, if_pos h0, h1, List.map_drop]
theorem lenI {m : List Int} : lenD (LI m) = .ok (.int (m.length : Nat)) := lenD_LI
section
variable {c : Cx} (K : Ok c)
include K
theorem Ok.idxR {s : Int} (h : 0 ≤ s ∧ s < 5) : idxD (.list (LL c.rows5)) (.int s) = .ok (LI (c.ro s)) := by
  have hl : s.toNat < c.rows5.length := by unfold Cx.rows5; rw [List.length_append, K.g.l4]; simp; omega
  have e : (LL c.rows5)[s.toNat]? = some (LI (c.ro s)) := by
    unfold LL Cx.ro
    rw [List.getElem?_map, List.getD_eq_getElem?_getD, List.getElem?_eq_getElem hl]
    rfl
  simp only [idxD, nth, if_pos h.1, e]
theorem Ok.laid {s : Int} (h : 0 ≤ s ∧ s < 5) : fn 2 [LI (c.ro s), AD c.pl c.sq] = .ok (LI (c.lr s)) :=
  e_laid fun w hw q => K.mem5.mpr (by have := ((K.row5 (K.mem5.mpr h)).2 w hw).2 q; omega)
theorem Ok.laidH : fn 2 [LI c.rts, AD c.pl c.sq] = .ok (LI c.held) :=
  e_laid fun w hw q => K.mem5.mpr (by have := (K.g.rg w hw).2 q; omega)
theorem Ok.idxA {s : Int} (h : 0 ≤ s ∧ s < 5) : idxD (AD c.pl c.sq) (.int s) = .ok (.int (c.pl s : Nat)) := idx_AD (K.mem5.mpr h)
noncomputable def Cx.mm (c : Cx) (L : List Int) : List RT := T c.ro c.pl L ++ fz (c.at' + c.tail - tot c.ro L)
theorem Ok.turn {A s L} (h : c.sq = A ++ s :: L) : c.pl s = tot c.ro A ∧ tot c.ro (A ++ [s]) ≤ c.at' ∧ fn 6 [LI (tm (c.mm A)), LI (c.lr s)] = .ok (.tuple [LI (tm (c.mm (A ++ [s]))), .int (c.pl s : Nat)]) ∧
    fn 8 [LI (tm (c.mm (A ++ [s]))), .int (c.pl s : Nat)] = .ok (LI (c.lr s)) ∧ fn 5 [LI (tm (c.mm (A ++ [s]))), LI (pls c.pl A)] = .ok (LI (tm (c.mm A))) := by
  have hp : c.pl s = tot c.ro A := pl_mid K.nd h
  have h15 := K.at15
  have ht := K.t4
  have hat : c.at' = tot c.ro (A ++ [s]) + tot c.ro L := by
    unfold Cx.at'
    rw [h]; simp; omega
  have hs : tot c.ro (A ++ [s]) = tot c.ro A + ((c.ro s).length + 1) := by simp
  have hlr : (c.lr s).length = (c.ro s).length := by unfold Cx.lr; rw [List.length_map]
  obtain ⟨n, hn⟩ : ∃ n, c.at' + c.tail - tot c.ro A = n + 1 := ⟨c.at' + c.tail - tot c.ro A - 1, by omega⟩
  have hrem : n - (c.lr s).length = c.at' + c.tail - tot c.ro (A ++ [s]) := by omega
  have hmm : c.mm A = T c.ro c.pl A ++ tF n :: [] := by unfold Cx.mm; rw [hn]; rfl
  have hmm2 : c.mm (A ++ [s]) = T c.ro c.pl A ++ tO (c.lr s) :: fz (n - (c.lr s).length) := by
    unfold Cx.mm
    rw [← hrem]
    simp
    rfl
  have hsz : tsz (c.mm (A ++ [s])) = c.at' + c.tail := by unfold Cx.mm; rw [tsz_append, tsz_T, fz_sz]; omega
  have hok : ∀ t ∈ c.mm A, Tk t := fun t ht => by
    unfold Cx.mm at ht
    rcases List.mem_append.mp ht with z | z
    · exact T_ok t z
    · exact fz_ok t z
  have hok2 : ∀ t ∈ c.mm (A ++ [s]), Tk t := fun t ht => by
    unfold Cx.mm at ht
    rcases List.mem_append.mp ht with z | z
    · exact T_ok t z
    · exact fz_ok t z
  refine ⟨hp, by omega, ?_, ?_, ?_⟩
  · rw [hmm2]
    rw [hmm] at hok ⊢
    rw [e_alloc hok (by omega) T_noFit (by rw [tsz_T, tsz_nil]; omega), frem_fz, tsz_T, hp, List.append_nil]
  · rw [hmm2, tm_at, hp, ← tsz_T (pl := c.pl), ← tm_len]
    exact e_fields rfl
  · rw [e_swept hok2 (by omega), hmm2, hmm]
    have hl := allLive_T (pl := c.pl) (ro := c.ro) (M := pls c.pl A) K.nd (L := A) (A := []) (Z := s :: L) h fun u hu => List.mem_map.mpr ⟨u, hu, rfl⟩
    rw [tot_nil] at hl
    rw [swp_live hl, tsz_T, Nat.zero_add, List.nil_append, swp_tail]
    · rw [show (c.lr s).length + (n - (c.lr s).length) = n by omega]
    · intro z
      obtain ⟨j, hj, e⟩ := List.mem_map.mp z
      have e2 : c.pl j = c.pl s := by rw [hp]; omega
      have : j = s := K.inj j (by rw [h]; exact List.mem_append_left _ hj) s (by rw [h]; simp) e2
      subst this
      have hnd := K.nd
      rw [h, List.nodup_append] at hnd
      exact hnd.2.2 j hj j (by simp) rfl
theorem Ok.mm0 : fn 3 [.int ((c.at' : Nat) + (c.tail : Nat) : Int)] = .ok (LI (tm (c.mm []))) := by
  have h : 1 ≤ c.at' := by rw [K.at_eq]; omega
  have h15 := K.at15
  have ht := K.t4
  obtain ⟨n, hn⟩ : ∃ n, c.at' + c.tail = n + 1 := ⟨c.at' + c.tail - 1, by omega⟩
  have e : ((c.at' : Nat) + (c.tail : Nat) : Int) = (n : Int) + 1 := by omega
  have hm : c.mm [] = [tF n] := by unfold Cx.mm; rw [tot_nil, hn]; rfl
  rw [e, e_fm (by omega), hm]
theorem Ok.mm1 : c.mm c.sq = c.MT ∧ tm c.MT = tm (T c.ro c.pl c.sq) ++ free c.tail := by
  have e : c.mm c.sq = T c.ro c.pl c.sq ++ fz c.tail := by
    unfold Cx.mm
    have : c.at' + c.tail - tot c.ro c.sq = c.tail := by unfold Cx.at'; omega
    rw [this]
  have e2 : c.mm c.sq = c.MT := by
    rw [e]
    have h4 := K.lr4
    unfold Cx.lr at h4
    simp [Cx.MT, Cx.mx, MX, Cx.sq, h4]
  refine ⟨e2, ?_⟩
  rw [← e2, e, tm_append, tm_fz]
theorem Ok.MTok : (∀ t ∈ c.MT, Tk t) ∧ tsz c.MT ≤ 1000 := by
  have h15 := K.at15
  have ht := K.t4
  have hp : c.pad.length + 0 = c.p := by simp [Cx.pad]
  refine ⟨K.mx_ok (okO (f := c.pad) (r := 0)) fz_ok, ?_⟩
  have e := K.mx_sz (Y := fz c.tail) (K.szO (f := c.pad) (r := 0) hp)
  have e : tsz c.MT = c.at' + tsz (fz c.tail) := e
  rw [e, fz_sz]
  omega
theorem Ok.sweepMT : fn 5 [LI (tm c.MT), LI c.keep] = .ok (LI (tm c.HT)) := by
  have hp : c.pad.length + 0 = c.p := by simp [Cx.pad]
  rw [e_swept K.MTok.1 K.MTok.2]
  have := K.hole hp
  rw [show c.mx (tO c.pad :: fz 0) (fz c.tail) = c.MT from rfl] at this
  rw [this]
theorem Ok.allocMT : fn 6 [LI (tm c.HT), LI c.pad] = .ok (.tuple [LI (tm c.MT), .int (c.pl 4 : Nat)]) := by
  have hp : c.pad.length = c.p := by simp [Cx.pad]
  have := K.al1 (f := c.pad) (by omega)
  rw [hp, Nat.sub_self] at this
  exact this
theorem Ok.wanted : (tm (T c.ro c.pl c.sq)).take (c.pl 4) ++ free (c.p + 1) ++ (tm (T c.ro c.pl c.sq)).drop (c.pl 4 + (c.p + 1)) ++ free c.tail = tm c.HT := by
  have h4 := K.lr4
  have hp : c.pad.length = c.p := by simp [Cx.pad]
  have e : tm (T c.ro c.pl c.sq) = tm (T c.ro c.pl c.A) ++ ((((c.p : Nat) : Int) :: c.pad) ++ tm (T c.ro c.pl c.B)) := by
    unfold Cx.lr at h4
    simp [Cx.sq, h4, tO, hp]
  have hA : (tm (T c.ro c.pl c.A)).length = c.pl 4 := by rw [tm_len, tsz_T, K.pl4]
  have h0 : tm [tF c.p] = free (c.p + 1) := tm_fz (n := c.p + 1)
  rw [e, List.take_left' hA, ← List.append_assoc, List.drop_left' (by rw [List.length_append, hA, List.length_cons, hp])]
  unfold Cx.HT Cx.mx MX
  rw [tm_append, tm_append, tm_append, h0, tm_fz]
  simp
omit K in
theorem blkT_T {ro : Int → List Int} {pl : Int → Nat} {sq Z : List Int} (hn : sq.Nodup) : ∀ {L A : List Int}, sq = A ++ (L ++ Z) → (4 : Int) ∉ L → blkT (tot ro A) (T ro pl L) = L.map fun s => PyData.tuple [.int (plc ro sq s : Nat), .int (((ro s).length : Int) + 1), .bool (decide (s = 4))]
  | [], _, _, _ => rfl
  | s :: L, A, h, h4 => by
    have h1 : plc ro sq s = tot ro A := pl_mid hn (B := L ++ Z) (by rw [h]; simp)
    have ih := blkT_T (ro := ro) (pl := pl) (Z := Z) hn (L := L) (A := A ++ [s]) (by rw [h]; simp) fun z => h4 (.tail _ z)
    have h3 : tot ro A + ((tO ((ro s).map (la pl))).2.length + 1) = tot ro (A ++ [s]) := by simp [tO]
    have hs : ¬ s = 4 := fun z => h4 (by rw [z]; exact .head _)
    have h5 : ¬ (((ro s).length : Nat) : Int) < 0 := by omega
    rw [T_cons, blkT_cons, h3, ih, List.map_cons]
    simp only [bD, tO, h1, h5, hs, decide_false, List.length_map]
theorem Ok.blocks : blkT 0 c.HT = (c.sq.map fun s => PyData.tuple [.int (c.pl s : Nat), .int (((c.ro s).length : Int) + 1), .bool (decide (s = 4))]) ++ List.replicate (if (1 : Int) < (c.tail : Nat) then (1 : Int) else (c.tail : Nat)).toNat (.tuple [.int (c.at' : Nat), .int (c.tail : Nat), .bool true]) := by
  have h1 := blkT_T (pl := c.pl) (ro := c.ro) K.nd K.sqA fun z => K.nab.2 (List.mem_append_left _ z)
  have h2 := blkT_T (pl := c.pl) (ro := c.ro) K.nd K.sqB fun z => K.nab.2 (List.mem_append_right _ z)
  rw [tot_nil] at h1
  rw [tot_append, tot_cons, tot_nil, K.ro4, Cx.pad, List.length_replicate, Nat.add_zero] at h2
  have h3 : blkT (tot c.ro c.A) [tF c.p] = [.tuple [.int (c.pl 4 : Nat), .int (((c.ro 4).length : Int) + 1), .bool true]] := by
    have : (tF c.p).1 < 0 := by simp only [tF]; omega
    rw [blkT_cons, blkT_nil, bD, K.pl4, K.ro4]
    simp [this, Cx.pad]
    simp [tF]
  have h4 : ∀ {n : Nat}, blkT c.at' (fz n) = List.replicate (if (1 : Int) < (n : Nat) then (1 : Int) else (n : Nat)).toNat (.tuple [.int (c.at' : Nat), .int (n : Nat), .bool true]) := fun {n} => by
    cases n with
    | zero => rfl
    | succ n =>
      have h5 : (if (1 : Int) < ((n + 1 : Nat) : Int) then (1 : Int) else ((n + 1 : Nat) : Int)).toNat = 1 := by split <;> omega
      have : (tF n).1 < 0 := by simp only [tF]; omega
      rw [h5, fz, blkT_cons, blkT_nil, bD]
      simp [this]
      simp [tF]
  unfold Cx.HT Cx.mx MX
  rw [blkT_append, blkT_append, blkT_append, h1, Nat.zero_add, tsz_T, h3, K.szX, h2, tsz_T, ← K.at_eq, h4]
  unfold Cx.sq
  simp [Cx.pl, Cx.sq]
end
end Mine.L1

-- K9
namespace Mine.L1
open PySem Mine

theorem cCallX {F : FT} {ρ : Rho} {c : Option PyData} {es : List E} {ds : List PyData} {n : Nat} {k : Exk} (h1 : evL F ρ c es = .ok ds) (h2 : F.fn n ds = .exc k) : ev F ρ c (.call n es) = .exc k := by rw [ev_call, h1]; exact h2
theorem sDropX {F : FT} {ρ : Rho} {e : E} {rs : List S} {k : Exk} (h : ev F ρ none e = .exc k) : evSs F (.drop e :: rs) ρ = .exc k ρ := by
  show (match (ev F ρ none e).out ρ fun _ => Out.next ρ with | .next ρ' => evSs F rs ρ' | o => o) = _
  rw [h]; rfl
theorem sAsgX {F : FT} {ρ : Rho} {e : E} {rs : List S} {k : Exk} {i : Nat} (h : ev F ρ none e = .exc k) : evSs F (.assign i e :: rs) ρ = .exc k ρ := by
  rw [evSs_cons, evS_assign, h]; rfl
section
variable {c : Cx} (K : Ok c)
include K
theorem Ok.damage {s : Int} {o : Int} (h : 0 ≤ s ∧ s < 4) (ho : o = 0 ∨ o = 1) : fn 15 [LI (tm c.HT), .list (blkT 0 c.HT), .int (c.pl s : Nat), .int o] = .ok (.bool true) := by
  rw [fn15, fnR_of (ρ := [.v (LI (tm c.HT)), .v (.list (blkT 0 c.HT)), .v (.int (c.pl s : Nat)), .v (.int o), .un, .un]) rfl]
  have hle := K.HTle
  have hlen : (tm c.HT).length = tsz c.HT := tm_len
  have hpl : c.pl s + ((c.ro s).length + 1) ≤ c.at' := plc_lt (K.mem5.mpr (by omega))
  have h15 := K.at15
  have bad : ev (Ft 15) [.v (LI (tm c.HT)), .v (.list (blkT 0 c.HT)), .v (.int (c.pl s : Nat)), .v (.int o), .un, .un] none (E.bin .add (E.bin .add (E.slTo (E.var 0) (E.var 2)) (E.lst [(E.bin .add (E.bin .sub (E.bin .sub (E.len (E.var 0)) (E.var 2)) (E.int 1)) (E.var 3))])) (E.slFrom (E.var 0) (E.bin .add (E.var 2) (E.int 1))))
      = .ok (LI ((tm c.HT).take (c.pl s) ++ [((tsz c.HT : Nat) : Int) - (c.pl s : Nat) - 1 + o] ++ (tm c.HT).drop (c.pl s + 1))) := by
    rw [← hlen]
    refine cBin (cBin (cSlTo rfl rfl toI) (cL1 (cBin (cBin (cBin (cLen rfl lenI) rfl bin_sub) rfl bin_sub) rfl bin_add)) (addI (n := [_]) ?_)) (cSlFrom rfl (cBin rfl rfl bin_add) (fromI (a := c.pl s + 1))) (addI ?_)
    · simp only [List.length_take, List.length_singleton]; omega
    · simp only [List.length_append, List.length_take, List.length_singleton, List.length_drop]; omega
  rcases ho with rfl | rfl
  · obtain ⟨P, Q, e, hp, hb⟩ := K.bad0 h
    refine (congrArg bodyR (a₂ := .ret (.bool true)) (sAsg bad ?_)).trans rfl
    generalize hm : LI ((tm c.HT).take (c.pl s) ++ [((tsz c.HT : Nat) : Int) - (c.pl s : Nat) - 1 + 0] ++ (tm c.HT).drop (c.pl s + 1)) = bd at hb ⊢
    have hd : ∀ ρ : Rho, getV ρ 2 = .ok (.int (c.pl s : Nat)) → filterR (fun x => ev (Ft 15) ρ (some x) (E.cmp .lt (E.idx E.cv (E.int 0)) (E.var 2))) (fun x => ev (Ft 15) ρ (some x) E.cv) (blkT 0 c.HT) = .ok (blkT 0 P) := by
      intro ρ hρ
      rw [e, blkT_append, Nat.zero_add]
      have := filterR_append ((filt_lt (F := Ft 15) hρ (R := P) (z := 0) (by omega)).resolve_right (by omega)) (filt_ge (F := Ft 15) hρ (R := tO (c.lr s) :: Q) (z := tsz P) (by omega))
      rw [List.append_nil] at this
      exact this
    have hsh : Fg 2 (.list (blkT 0 P ++ [.tuple [.int (c.pl s : Nat), .int (((tsz c.HT : Nat) : Int) - (c.pl s : Nat)), .bool false]])) := Fg.list fun x hx => by
      rcases List.mem_append.mp hx with z | z
      · exact Fg.blkT x z
      · rw [List.mem_singleton] at z
        subst z
        refine Fg.tup fun x hx => ?_
        rcases List.mem_cons.mp hx with rfl | hx
        · exact Fg.int
        · rcases List.mem_cons.mp hx with rfl | hx
          · exact Fg.int
          · rw [List.mem_singleton] at hx; subst hx; exact Fg.bool
    have hl2 : (blkT 0 P).length ≤ 1000 := by
      rw [blkT_len]
      have := len_tsz (R := P)
      have : tsz P ≤ tsz c.HT := by rw [e, tsz_append]; omega
      omega
    rw [evSs_cons, stepT (cCmp rfl rfl cmp_eqi), sRet (d := .bool true)]
    have hF : (Ft 15).fn 4 [bd] = fn 4 [bd] := by rw [Ft_fn (by omega)]
    refine cCmp (c1 rfl (hF.trans hb)) (cBin (ev_compIfS (it rfl rfl) (hd _ rfl)) (cL1 (cTup (lC rfl (lC (cBin (cLen rfl (lenI.trans (by rw [tm_len]))) rfl bin_sub) (lC rfl lN))))) (bin_addL ?_)) (cmp_eq_self hsh (by omega))
    simp only [List.length_singleton]; omega
  · have hb := K.bad1 h
    refine (congrArg bodyR (a₂ := .ret (.bool true)) (sAsg bad ?_)).trans rfl
    generalize hm : (tm c.HT).take (c.pl s) ++ [((tsz c.HT : Nat) : Int) - (c.pl s : Nat) - 1 + 1] ++ (tm c.HT).drop (c.pl s + 1) = bd at hb ⊢
    refine kNo (cCmp rfl rfl cmp_eqi) (sAsg rfl (sTryX (sDropX (cCallX (lC rfl (lC rfl lN)) ?_)) rfl (kNo (cOrF (cIsC (a := .none) (c1 rfl ?_) rfl rfl) (cIsC (a := .bool false) (c2 rfl rfl ?_) rfl rfl)) (sRet rfl))))
    · rw [Ft_fn (by omega)]; exact e_alloc_val (fs := []) hb
    · rw [Ft_fn (by omega)]; exact hb
    · rw [Ft_fn (by omega)]; exact e_memok_none hb
end
end Mine.L1

-- K10
namespace Mine.L1
open PySem Mine

noncomputable def bS : List S := [S.append 8 (E.tup [(E.var 10), (E.var 9)]), S.assign 9 (E.bin .add (E.bin .add (E.var 9) (E.len (E.idx (E.var 6) (E.var 10)))) (E.int 1))]
noncomputable def bL : List S := [S.assign 35 (E.call 2 [(E.idx (E.var 6) (E.var 10)), (E.var 11)]), S.assign 15 (E.bin .add (E.bin .add (E.var 15) (E.lst [(E.len (E.var 35))])) (E.var 35)), S.assign 36 (E.call 6 [(E.var 14), (E.var 35)]), S.ife (E.bop false (E.cmp .ne (E.var 36) (E.tup [(E.bin .add (E.var 15) (E.call 7 [(E.bin .sub (E.bin .add (E.var 9) (E.var 7)) (E.len (E.var 15)))])), (E.idx (E.var 11) (E.var 10))])) (E.isT false (E.idx (E.var 36) (E.int 1)) "int")) [S.ret (E.bool false)] [], S.ife (E.bop false (E.cmp .ne (E.call 8 [(E.idx (E.var 36) (E.int 0)), (E.idx (E.var 11) (E.var 10))]) (E.var 35)) (E.cmp .ne (E.call 5 [(E.idx (E.var 36) (E.int 0)), (E.var 16)]) (E.var 14))) [S.ret (E.bool false)] [], S.assign 14 (E.idx (E.var 36) (E.int 0)), S.assign 16 (E.bin .add (E.var 16) (E.lst [(E.idx (E.var 11) (E.var 10))]))]
theorem Fn22 {k : Nat} {ds : List PyData} (h : k < 22) : (Ft 22).fn k ds = fn k ds := by rw [Ft_fn h]
theorem f22 {k : Nat} {ds : List PyData} {r : R PyData} (e : fn k ds = r) (h : k < 22) : (Ft 22).fn k ds = r := (Fn22 h).trans e
theorem idx20 {a b : PyData} : idxD (.tuple [a, b]) (.int 0) = .ok a := rfl
theorem idx21 {a b : PyData} : idxD (.tuple [a, b]) (.int 1) = .ok b := rfl
section
variable {c : Cx} (K : Ok c) {x0 x1 x2 x3 x4 x5 x6 x7 x8 x9 x10 x11 x12 x13 x14 x15 x16 x17 x18 x19 x20 x21 x22 x23 x24 x25 x26 x27 x28 x29 x30 x31 x32 x33 x34 x35 x36 x37 x38 : VA}
include K
noncomputable def pr (c : Cx) (s : Int) : PyData := .tuple [.int s, .int (c.pl s : Nat)]
theorem Ok.loop1 : ∀ {L A : List Int} {x10 : VA}, c.sq = A ++ L → ∃ y10, forL (fun d ρ => evSs (Ft 22) bS (ρ.set 10 (.v d))) (L.map .int) [x0, x1, x2, x3, x4, x5, .v (.list (LL c.rows5)), x7, .own (A.map (pr c)), .v (.int (tot c.ro A : Nat)), x10, x11, x12, x13, x14, x15, x16, x17, x18, x19, x20, x21, x22, x23, x24, x25, x26, x27, x28, x29, x30, x31, x32, x33, x34, x35, x36, x37, x38] = .next [x0, x1, x2, x3, x4, x5, .v (.list (LL c.rows5)), x7, .own (c.sq.map (pr c)), .v (.int (c.at' : Nat)), y10, x11, x12, x13, x14, x15, x16, x17, x18, x19, x20, x21, x22, x23, x24, x25, x26, x27, x28, x29, x30, x31, x32, x33, x34, x35, x36, x37, x38]
  | [], A, x10, h => ⟨x10, by rw [List.append_nil] at h; unfold Cx.at'; rw [h]; rfl⟩
  | s :: L, A, x10, h => by
    obtain ⟨y, ih⟩ := Ok.loop1 (L := L) (A := A ++ [s]) (x10 := .v (.int s)) (by rw [h]; simp)
    refine ⟨y, ?_⟩
    have hs : 0 ≤ s ∧ s < 5 := K.mem5.mp (by rw [h]; simp)
    have hp : c.pl s = tot c.ro A := pl_mid K.nd h
    have hA : A.length ≤ 5 := by
      have := K.sq_len
      rw [h, List.length_append] at this
      omega
    have e : evSs (Ft 22) bS ([x0, x1, x2, x3, x4, x5, .v (.list (LL c.rows5)), x7, .own (A.map (pr c)), .v (.int (tot c.ro A : Nat)), x10, x11, x12, x13, x14, x15, x16, x17, x18, x19, x20, x21, x22, x23, x24, x25, x26, x27, x28, x29, x30, x31, x32, x33, x34, x35, x36, x37, x38].set 10 (.v (.int s))) = .next [x0, x1, x2, x3, x4, x5, .v (.list (LL c.rows5)), x7, .own ((A ++ [s]).map (pr c)), .v (.int (tot c.ro (A ++ [s]) : Nat)), .v (.int s), x11, x12, x13, x14, x15, x16, x17, x18, x19, x20, x21, x22, x23, x24, x25, x26, x27, x28, x29, x30, x31, x32, x33, x34, x35, x36, x37, x38] := by
      refine sApp (d := pr c s) (ds := A.map (pr c)) ?_ rfl (by rw [List.length_map]; omega) (sAsg (cBin (cBin rfl (cLen (cIdx rfl rfl (K.idxR hs)) lenI) bin_add) rfl bin_add) ?_)
      · unfold pr
        rw [hp]
        exact cTup (lC rfl (lC rfl lN))
      · have h1 : (A ++ [s]).map (pr c) = A.map (pr c) ++ [pr c s] := by simp
        have h2 : ((tot c.ro (A ++ [s]) : Nat) : Int) = (tot c.ro A : Nat) + ((c.ro s).length : Nat) + 1 := by simp; omega
        rw [h1, h2]
        rfl
    rw [List.map_cons, forL, e]
    exact ih
omit K in
theorem lset_new : ∀ {l : List (Int × PyData)} {k : Int} {d : PyData}, (∀ p ∈ l, p.1 ≠ k) → lset l k d = l ++ [(k, d)]
  | [], _, _, _ => rfl
  | (j, e) :: r, k, d, h => by
    rw [lset, if_neg (h (j, e) (.head _)), lset_new fun p hp => h p (.tail _ hp)]; rfl
omit K in
theorem dmake_pr {pl : Int → Nat} : ∀ {L A : List Int}, (A ++ L).Nodup → dmake (L.map fun s => .tuple [.int s, .int (pl s : Nat)]) (dk (A.map fun s => (s, .int (pl s : Nat)))) = .ok (AD pl (A ++ L))
  | [], A, _ => by rw [List.append_nil]; rfl
  | s :: L, A, h => by
    have hs : ∀ p ∈ A.map fun s => (s, PyData.int (pl s : Nat)), p.1 ≠ s := by
      intro p hp z
      obtain ⟨j, hj, rfl⟩ := List.mem_map.mp hp
      rw [List.nodup_append] at h
      exact h.2.2 j hj s (.head _) z
    have ih := dmake_pr (pl := pl) (L := L) (A := A ++ [s]) (by simpa using h)
    rw [List.map_cons, dmake, dset_dk, lset_new hs]
    rw [List.map_append] at ih
    simpa using ih
theorem Ok.mkd : mkdictD (.list (c.sq.map (pr c))) = .ok (AD c.pl c.sq) := dmake_pr (pl := c.pl) (L := c.sq) (A := []) K.nd
theorem Ok.turn2 {s : Int} {L A : List Int} (h : c.sq = A ++ s :: L) : evSs (Ft 22) bL ([x0, x1, x2, x3, x4, x5, .v (.list (LL c.rows5)), .v (.int (c.tail : Nat)), x8, .v (.int (c.at' : Nat)), x10, .v (AD c.pl c.sq), x12, x13, .v (LI (tm (c.mm A))), .v (LI (tm (T c.ro c.pl A))), .v (LI (pls c.pl A)), x17, x18, x19, x20, x21, x22, x23, x24, x25, x26, x27, x28, x29, x30, x31, x32, x33, x34, x35, x36, x37, x38].set 10 (.v (.int s))) =
    .next [x0, x1, x2, x3, x4, x5, .v (.list (LL c.rows5)), .v (.int (c.tail : Nat)), x8, .v (.int (c.at' : Nat)), .v (.int s), .v (AD c.pl c.sq), x12, x13, .v (LI (tm (c.mm (A ++ [s])))), .v (LI (tm (T c.ro c.pl (A ++ [s])))), .v (LI (pls c.pl (A ++ [s]))), x17, x18, x19, x20, x21, x22, x23, x24, x25, x26, x27, x28, x29, x30, x31, x32, x33, x34, .v (LI (c.lr s)), .v (.tuple [LI (tm (c.mm (A ++ [s]))), .int (c.pl s : Nat)]), x37, x38] := by
  have hs : 0 ≤ s ∧ s < 5 := K.mem5.mp (by rw [h]; simp)
  obtain ⟨hp, hle, ha, hf, hw⟩ := K.turn h
  have h15 := K.at15
  have ht := K.t4
  have hfl : (tm (T c.ro c.pl A)).length = tot c.ro A := by rw [tm_len, tsz_T]
  have hlr : (c.lr s).length = (c.ro s).length := by unfold Cx.lr; rw [List.length_map]
  have hst : tot c.ro (A ++ [s]) = tot c.ro A + ((c.ro s).length + 1) := by simp
  have e15 : tm (T c.ro c.pl A) ++ [((c.lr s).length : Int)] ++ c.lr s = tm (T c.ro c.pl (A ++ [s])) := by
    simp [tO]
    exact ⟨by rw [hlr], rfl⟩
  have e16 : pls c.pl A ++ [((c.pl s : Nat) : Int)] = pls c.pl (A ++ [s]) := by simp [pls]
  have emm : tm (T c.ro c.pl (A ++ [s])) ++ free (c.at' + c.tail - tot c.ro (A ++ [s])) = tm (c.mm (A ++ [s])) := by unfold Cx.mm; rw [tm_append, tm_fz]
  have hA : (pls c.pl A).length ≤ 5 := by
    have := K.sq_len
    rw [h, List.length_append] at this
    unfold pls
    rw [List.length_map]
    omega
  have hfl2 : (tm (T c.ro c.pl (A ++ [s]))).length = tot c.ro (A ++ [s]) := by rw [tm_len, tsz_T]
  have hsub : ((c.at' : Nat) : Int) + (c.tail : Nat) - ((tm (T c.ro c.pl (A ++ [s]))).length : Nat) = ((c.at' + c.tail - tot c.ro (A ++ [s]) : Nat) : Int) := by rw [hfl2]; omega
  refine sAsg (c2 (cIdx rfl rfl (K.idxR hs)) rfl (f22 (K.laid hs) (by omega))) ?_
  refine sAsg (cBin (cBin rfl (cL1 (cLen rfl lenI)) (addI (n := [_]) (by rw [List.length_singleton]; omega))) rfl ((addI (by rw [List.length_append, List.length_singleton]; omega)).trans (by rw [e15]))) ?_
  refine sAsg (c2 rfl rfl (f22 ha (by omega))) ?_
  refine kNo (cOrF (cCmp rfl (cTup (lC (cBin rfl (c1 (cBin (cBin rfl rfl bin_add) (cLen rfl lenI) (bin_sub.trans (by rw [hsub]))) (f22 (e_free (by omega)) (by omega))) ((addI (by rw [free_len]; omega)).trans (by rw [emm]))) (lC (cIdx rfl rfl (K.idxA hs)) lN))) neP) (cIsT (cIdx rfl rfl idx21) rfl)) ?_
  refine kNo (cOrF (cCmp (c2 (cIdx rfl rfl idx20) (cIdx rfl rfl (K.idxA hs)) (f22 hf (by omega))) rfl neS) (cCmp (c2 (cIdx rfl rfl idx20) rfl (f22 hw (by omega))) rfl neS)) ?_
  refine sAsg (cIdx rfl rfl idx20) (sAsg (cBin rfl (cL1 (cIdx rfl rfl (K.idxA hs))) ((addI (n := [_]) (by rw [List.length_singleton]; omega)).trans (by rw [e16]))) ?_)
  rfl
theorem Ok.loop2 : ∀ {L A : List Int} {x10 x35 x36 : VA}, c.sq = A ++ L → ∃ y10 y35 y36, forL (fun d ρ => evSs (Ft 22) bL (ρ.set 10 (.v d))) (L.map .int) [x0, x1, x2, x3, x4, x5, .v (.list (LL c.rows5)), .v (.int (c.tail : Nat)), x8, .v (.int (c.at' : Nat)), x10, .v (AD c.pl c.sq), x12, x13, .v (LI (tm (c.mm A))), .v (LI (tm (T c.ro c.pl A))), .v (LI (pls c.pl A)), x17, x18, x19, x20, x21, x22, x23, x24, x25, x26, x27, x28, x29, x30, x31, x32, x33, x34, x35, x36, x37, x38] =
    .next [x0, x1, x2, x3, x4, x5, .v (.list (LL c.rows5)), .v (.int (c.tail : Nat)), x8, .v (.int (c.at' : Nat)), y10, .v (AD c.pl c.sq), x12, x13, .v (LI (tm (c.mm c.sq))), .v (LI (tm (T c.ro c.pl c.sq))), .v (LI (pls c.pl c.sq)), x17, x18, x19, x20, x21, x22, x23, x24, x25, x26, x27, x28, x29, x30, x31, x32, x33, x34, y35, y36, x37, x38]
  | [], A, x10, x35, x36, h => ⟨x10, x35, x36, by rw [List.append_nil] at h; rw [← h]; rfl⟩
  | s :: L, A, x10, x35, x36, h => by
    obtain ⟨y10, y35, y36, ih⟩ := Ok.loop2 (L := L) (A := A ++ [s]) (x10 := .v (.int s)) (x35 := .v (LI (c.lr s))) (x36 := .v (.tuple [LI (tm (c.mm (A ++ [s]))), .int (c.pl s : Nat)])) (by rw [h]; simp)
    refine ⟨y10, y35, y36, ?_⟩
    rw [List.map_cons, forL, K.turn2 h]
    exact ih
end
end Mine.L1

-- K11
namespace Mine.L1
open PySem Mine

theorem sAsgT {F : FT} {ρ ρ' : Rho} {e : E} {rs : List S} {o : Out} {is : List Nat} {ds : List PyData} (h : ev F ρ none e = .ok (.tuple ds)) (hs : setVs is ds ρ = some ρ') (k : evSs F rs ρ' = o) : evSs F (.assignT is e :: rs) ρ = o := by
  rw [evSs_cons, evS_assignT, h]
  simp only [R.out_ok, hs]
  exact k
noncomputable def gt (ns : List Int) (i : Nat) : Int := ns.getD i 0
noncomputable def od (t : Int) (i : Int) : Int := (t / 2 + i * (1 + t % 2 * 2)) % 4
noncomputable def ord (t : Int) : List Int := [od t 0, od t 1, od t 2, od t 3]
theorem ord_ok {t : Int} (h : 0 ≤ t ∧ t < 8) : ord t = [0, 1, 2, 3] ∨ ord t = [0, 3, 2, 1] ∨ ord t = [1, 2, 3, 0] ∨ ord t = [1, 0, 3, 2] ∨ ord t = [2, 3, 0, 1] ∨ ord t = [2, 1, 0, 3] ∨ ord t = [3, 0, 1, 2] ∨ ord t = [3, 2, 1, 0] := by
  have : t = 0 ∨ t = 1 ∨ t = 2 ∨ t = 3 ∨ t = 4 ∨ t = 5 ∨ t = 6 ∨ t = 7 := by omega
  rcases this with rfl | rfl | rfl | rfl | rfl | rfl | rfl | rfl
  · exact .inl rfl
  · exact .inr (.inl rfl)
  · exact .inr (.inr (.inl rfl))
  · exact .inr (.inr (.inr (.inl rfl)))
  · exact .inr (.inr (.inr (.inr (.inl rfl))))
  · exact .inr (.inr (.inr (.inr (.inr (.inl rfl)))))
  · exact .inr (.inr (.inr (.inr (.inr (.inr (.inl rfl))))))
  · exact .inr (.inr (.inr (.inr (.inr (.inr (.inr rfl))))))
theorem ord_mem {t : Int} (h : 0 ≤ t ∧ t < 8) {s : Int} : s ∈ ord t ↔ 0 ≤ s ∧ s < 4 := by
  rcases ord_ok h with e | e | e | e | e | e | e | e <;> rw [e] <;> simp only [List.mem_cons, List.not_mem_nil, or_false] <;> omega
theorem ord_nd {t : Int} (h : 0 ≤ t ∧ t < 8) : (ord t).Nodup := by
  rcases ord_ok h with e | e | e | e | e | e | e | e <;> rw [e] <;> decide
noncomputable def g1 (ns : List Int) : List Int × Nat := goW none [gt ns 0, gt ns 1, gt ns 2] 0
noncomputable def g2 (ns : List Int) : List (List Int) × Nat := goR [⟨gt ns 3, gt ns 7, gt ns 8⟩, ⟨gt ns 4, gt ns 9, gt ns 10⟩, ⟨gt ns 5, gt ns 11, gt ns 12⟩, ⟨gt ns 6, gt ns 13, gt ns 14⟩] 0 (g1 ns).2
noncomputable def cx (ns : List Int) : Cx := ⟨(g1 ns).1, (g2 ns).1, (g2 ns).2, (gt ns 17 % 3).toNat, 2 * ab (gt ns 23), (ord (gt ns 15 % 8)).take (gt ns 16 % 4).toNat, (ord (gt ns 15 % 8)).drop (gt ns 16 % 4).toNat, (gt ns 18 % 5).toNat⟩
theorem cx_ok {ns : List Int} : Ok (cx ns) := by
  have ht : 0 ≤ gt ns 15 % 8 ∧ gt ns 15 % 8 < 8 := by omega
  refine ⟨gr_of, ?_, ?_, ?_, ?_, ?_, ?_, ?_⟩
  · show (gt ns 17 % 3).toNat ≤ 2
    omega
  · show (gt ns 18 % 5).toNat ≤ 4
    omega
  · show 0 ≤ 2 * ab (gt ns 23)
    have := ab_nonneg (y := gt ns 23)
    omega
  · show 2 * ab (gt ns 23) % 2 = 0
    omega
  · show ((ord (gt ns 15 % 8)).take (gt ns 16 % 4).toNat ++ 4 :: (ord (gt ns 15 % 8)).drop (gt ns 16 % 4).toNat).Nodup
    have hn := ord_nd ht
    rw [← List.take_append_drop (gt ns 16 % 4).toNat (ord (gt ns 15 % 8)), List.nodup_append] at hn
    have h4 : ∀ s ∈ ord (gt ns 15 % 8), s ≠ 4 := fun s hs => by have := (ord_mem ht).mp hs; omega
    rw [List.nodup_append, List.nodup_cons]
    refine ⟨hn.1, ⟨fun z => h4 _ (List.mem_of_mem_drop z) rfl, hn.2.1⟩, fun a ha b hb => ?_⟩
    rcases List.mem_cons.mp hb with rfl | hb
    · exact h4 a (List.mem_of_mem_take ha)
    · exact hn.2.2 a ha b hb
  · intro s
    show s ∈ (ord (gt ns 15 % 8)).take (gt ns 16 % 4).toNat ++ (ord (gt ns 15 % 8)).drop (gt ns 16 % 4).toNat ↔ _
    rw [List.take_append_drop]
    exact ord_mem ht
  · show (ord (gt ns 15 % 8)).drop (gt ns 16 % 4).toNat ≠ []
    intro z
    have := congrArg List.length z
    rw [List.length_drop] at this
    have h4 : (ord (gt ns 15 % 8)).length = 4 := rfl
    rw [h4, List.length_nil] at this
    omega
theorem ix {ns : List Int} {i : Nat} (h : 24 ≤ ns.length) (hi : i < 24) : idxD (LI ns) (.int (i : Nat)) = .ok (.int (gt ns i)) := idx_LI (by
  unfold gt
  rw [List.getD_eq_getElem?_getD, List.getElem?_eq_getElem (by omega)]; rfl)
theorem toLL {rows : List (List Int)} {a : Nat} : slToD (.list (LL rows)) (.int (a : Nat)) = .ok (.list (LL (rows.take a))) := by
  have h0 : (0 : Int) ≤ (a : Nat) := by omega
  have h1 : ((a : Nat) : Int).toNat = a := by omega
  simp only [slToD, LL, if_pos h0, h1, List.map_take]
theorem mulI {x n : Int} {p : Nat} (h : n = (p : Nat)) (hp : p ≤ 1000) : binD .mul (LI [x]) (.int n) = .ok (LI (List.replicate p x)) := by
  have e := bin_mulL (x := .int x) (n := n) (by omega)
  have h1 : n.toNat = p := by omega
  rw [h1] at e
  unfold LI
  rw [List.map_replicate]
  exact e
noncomputable def rest1 : List S := b22.drop 19
theorem segA {ns : List Int} {o : Out} (h : 24 ≤ ns.length) (c : Cx) (hc : cx ns = c) (k : ∀ x2 x3 x4 x8 x10 x35 x36 : VA, evSs (Ft 22) rest1 [.v (LI ns), .v (.int c.num), x2, x3, x4, .v (LI c.sq), .v (.list (LL c.rows5)), .v (.int (c.tail : Nat)), x8, .v (.int (c.at' : Nat)), x10, .v (AD c.pl c.sq), .v (LI c.held), .v (.tuple [LI c.rts, .list (LL (c.rows.take c.met))]), .v (LI (tm (c.mm c.sq))), .v (LI (tm (T c.ro c.pl c.sq))), .v (LI (pls c.pl c.sq)), .un, .un, .un, .un, .un, .un, .un, .un, .un, .un, .un, .un, .un, .un, .un, .un, .v (LI c.rts), .v (.int (c.met : Nat)), x35, x36, .un, .un] = o) :
    evSs (Ft 22) b22 (.v (LI ns) :: List.replicate 38 .un) = o := by
  have K : Ok c := hc ▸ cx_ok
  have I := @ix ns
  have hsq : c.sq = (ord (gt ns 15 % 8)).take (gt ns 16 % 4).toNat ++ [4] ++ (ord (gt ns 15 % 8)).drop (gt ns 16 % 4).toNat := by rw [← hc]; simp [cx, Cx.sq]
  have hpl : gt ns 16 % 4 = (((gt ns 16 % 4).toNat : Nat) : Int) := by omega
  have h3 : gt ns 17 % 3 = ((c.p : Nat) : Int) := by rw [← hc]; show _ = (((gt ns 17 % 3).toNat : Nat) : Int); omega
  have h5 : gt ns 18 % 5 = ((c.tail : Nat) : Int) := by rw [← hc]; show _ = (((gt ns 18 % 5).toNat : Nat) : Int); omega
  have hnum : (2 * (if gt ns 23 < 0 then -gt ns 23 else gt ns 23) : Int) = c.num := by rw [← hc]; rfl
  have hp2 := K.p2
  have hsqi : LI c.sq = LI ((ord (gt ns 15 % 8)).take (gt ns 16 % 4).toNat ++ [4] ++ (ord (gt ns 15 % 8)).drop (gt ns 16 % 4).toNat) := by rw [hsq]
  have hlord : (ord (gt ns 15 % 8)).length = 4 := rfl
  have hrts : (g1 ns).1 = c.rts := by rw [← hc]; rfl
  have hrows : (g2 ns).1 = c.rows := by rw [← hc]; rfl
  have hmet : (g2 ns).2 = c.met := by rw [← hc]; rfl
  have es := e_shape0 (r0 := gt ns 0) (r1 := gt ns 1) (r2 := gt ns 2) (c0 := ⟨gt ns 3, gt ns 7, gt ns 8⟩) (c1 := ⟨gt ns 4, gt ns 9, gt ns 10⟩) (c2 := ⟨gt ns 5, gt ns 11, gt ns 12⟩) (c3 := ⟨gt ns 6, gt ns 13, gt ns 14⟩)
  have es : fn 1 [.tuple [.int (gt ns 0), .int (gt ns 1), .int (gt ns 2)], .tuple [clD ⟨gt ns 3, gt ns 7, gt ns 8⟩, clD ⟨gt ns 4, gt ns 9, gt ns 10⟩, clD ⟨gt ns 5, gt ns 11, gt ns 12⟩, clD ⟨gt ns 6, gt ns 13, gt ns 14⟩]] = .ok (.tuple [LI (g1 ns).1, .list (LL (g2 ns).1), .int ((g2 ns).2 : Nat)]) := es
  rw [hrts, hrows, hmet] at es
  refine kNo (cCmp (cLen rfl lenI) rfl (cmp_lt.trans (by rw [decide_eq_false (by omega)]))) ?_
  refine sAsgT (cCall (lC (cTup (lC (cIdx rfl rfl (I h (i := 0) (by omega))) (lC (cIdx rfl rfl (I h (i := 1) (by omega))) (lC (cIdx rfl rfl (I h (i := 2) (by omega))) lN)))) (lC (cTup
    (lC (cTup (lC (cIdx rfl rfl (I h (i := 3) (by omega))) (lC (cIdx rfl rfl (I h (i := 7) (by omega))) (lC (cIdx rfl rfl (I h (i := 8) (by omega))) lN))))
    (lC (cTup (lC (cIdx rfl rfl (I h (i := 4) (by omega))) (lC (cIdx rfl rfl (I h (i := 9) (by omega))) (lC (cIdx rfl rfl (I h (i := 10) (by omega))) lN))))
    (lC (cTup (lC (cIdx rfl rfl (I h (i := 5) (by omega))) (lC (cIdx rfl rfl (I h (i := 11) (by omega))) (lC (cIdx rfl rfl (I h (i := 12) (by omega))) lN))))
    (lC (cTup (lC (cIdx rfl rfl (I h (i := 6) (by omega))) (lC (cIdx rfl rfl (I h (i := 13) (by omega))) (lC (cIdx rfl rfl (I h (i := 14) (by omega))) lN)))) lN))))) lN)) (f22 es (by omega))) rfl ?_
  refine sAsg (cBin rfl (cAbs (cIdx rfl rfl (I h (i := 23) (by omega)))) (bin_mul2.trans (by rw [hnum]))) ?_
  refine sAsg (cBin (cIdx rfl rfl (I h (i := 15) (by omega))) rfl (bin_mod (by omega))) ?_
  refine sAsg (cBin (cIdx rfl rfl (I h (i := 16) (by omega))) rfl (bin_mod4.trans (by rw [hpl]))) ?_
  refine sAsg (d := LI (ord (gt ns 15 % 8))) ?_ ?_
  · refine ev_compS (itr rfl rfl) (mapR_map (xs := List.range 4) (g := fun i : Nat => .int (i : Nat)) (h := fun i : Nat => .int (od (gt ns 15 % 8) (i : Nat))) fun i hi => ?_)
    have hi4 : i < 4 := List.mem_range.mp hi
    exact cBin (cBin (cBin rfl rfl bin_fdiv2) (cBin rfl (cBin rfl (cBin (cBin rfl rfl bin_mod2) rfl (bin_mul (by omega))) bin_add) (bin_mul (by omega))) bin_add) rfl bin_mod4
  refine sAsg (d := LI c.sq) (cBin (cBin (cSlTo rfl rfl toI) (cL1 rfl) (addI (n := [_]) ?_)) (cSlFrom rfl rfl fromI) ((addI ?_).trans (by rw [hsqi]))) ?_
  · rw [List.length_take, hlord, List.length_singleton]; omega
  · rw [List.length_append, List.length_take, hlord, List.length_singleton, List.length_drop, hlord]; omega
  have h4 := K.g.l4
  refine sAsg (d := .list (LL c.rows5)) (cBin rfl (cL1 (cBin (cL1 rfl) (cBin (cIdx rfl rfl (I h (i := 17) (by omega))) rfl (bin_mod (by omega))) (mulI h3 (by omega)))) ((bin_addL ?_).trans ?_)) ?_
  · rw [LL, List.length_map, h4, List.length_singleton]; decide
  · rw [Cx.rows5]
    simp [LL, Cx.pad]
  refine sAsg (cBin (cIdx rfl rfl (I h (i := 18) (by omega))) rfl ((bin_mod (by omega)).trans (by rw [h5]))) (sNew (sAsg rfl ?_))
  obtain ⟨y10, e1⟩ := K.loop1 (x0 := .v (LI ns)) (x1 := .v (.int c.num)) (x2 := .v (.int (gt ns 15 % 8))) (x3 := .v (.int (((gt ns 16 % 4).toNat : Nat) : Int))) (x4 := .v (LI (ord (gt ns 15 % 8)))) (x5 := .v (LI c.sq)) (x7 := .v (.int (c.tail : Nat))) (x11 := .un) (x12 := .un) (x13 := .un) (x14 := .un) (x15 := .un) (x16 := .un) (x17 := .un) (x18 := .un) (x19 := .un) (x20 := .un) (x21 := .un) (x22 := .un) (x23 := .un) (x24 := .un) (x25 := .un) (x26 := .un) (x27 := .un) (x28 := .un) (x29 := .un) (x30 := .un) (x31 := .un) (x32 := .un) (x33 := .v (LI c.rts)) (x34 := .v (.int (c.met : Nat))) (x35 := .un) (x36 := .un) (x37 := .un) (x38 := .un) (x10 := .un) (A := []) rfl
  refine sFor (it rfl rfl) e1 ?_
  refine sAsg (cMkd rfl K.mkd) ?_
  refine sAsg (c2 rfl rfl (f22 K.laidH (by omega))) ?_
  have hle := K.g.le
  have htk : c.rows5.take c.met = c.rows.take c.met := by
    unfold Cx.rows5
    rw [List.take_append_of_le_length (by omega)]
  refine sAsg (cTup (lC rfl (lC (cSlTo rfl rfl (toLL.trans (by rw [htk]))) lN))) ?_
  refine sAsg (c1 (cBin rfl rfl bin_add) (f22 K.mm0 (by omega))) (sAsg rfl (sAsg rfl ?_))
  obtain ⟨z10, z35, z36, e2⟩ := K.loop2 (x0 := .v (LI ns)) (x1 := .v (.int c.num)) (x2 := .v (.int (gt ns 15 % 8))) (x3 := .v (.int (((gt ns 16 % 4).toNat : Nat) : Int))) (x4 := .v (LI (ord (gt ns 15 % 8)))) (x5 := .v (LI c.sq)) (x8 := .own (c.sq.map (pr c))) (x12 := .v (LI c.held)) (x13 := .v (.tuple [LI c.rts, .list (LL (c.rows.take c.met))])) (x17 := .un) (x18 := .un) (x19 := .un) (x20 := .un) (x21 := .un) (x22 := .un) (x23 := .un) (x24 := .un) (x25 := .un) (x26 := .un) (x27 := .un) (x28 := .un) (x29 := .un) (x30 := .un) (x31 := .un) (x32 := .un) (x33 := .v (LI c.rts)) (x34 := .v (.int (c.met : Nat))) (x37 := .un) (x38 := .un) (x10 := y10) (x35 := .un) (x36 := .un) (A := []) rfl
  refine sFor (it rfl rfl) e2 ?_
  exact k _ _ _ _ _ _ _
end Mine.L1

-- K12
namespace Mine.L1
open PySem Mine

theorem genAny {F : FT} {ρ : Rho} {elt src : E} {xs : List PyData} (h1 : ev F ρ none src = .ok (.list xs)) (h2 : mapR (fun x => ev F ρ (some x) elt) xs = .ok (xs.map fun _ => .bool false)) : ev F ρ none (.gen "any" elt src) = .ok (.bool false) := by
  rw [ev_gen, h1, R.bind_ok, genD, genR, h2, R.bind_ok, if_neg (by decide), if_pos rfl, if_pos]
  · rw [List.any_map]
    refine congrArg (fun b => R.ok (PyData.bool b)) ?_
    rw [List.any_eq_false]
    intro x _
    simp
  · rw [List.all_map, List.all_eq_true]
    intro x _
    rfl
theorem genSum {F : FT} {ρ : Rho} {elt src : E} {xs : List PyData} {is : List Int} (h1 : ev F ρ none src = .ok (.list xs)) (h2 : mapR (fun x => ev F ρ (some x) elt) xs = .ok (is.map .int)) : ev F ρ none (.gen "sum" elt src) = .ok (.int is.sum) := by
  rw [ev_gen, h1, R.bind_ok, genD, genR, h2, R.bind_ok, if_pos rfl, sumL_li]
theorem sum_cast {α : Type} {f : α → Nat} : ∀ {L : List α}, (((L.map f).sum : Nat) : Int) = (L.map fun x => (f x : Int)).sum
  | [] => rfl
  | x :: L => by
    have := sum_cast (f := f) (L := L)
    simp only [List.map_cons, List.sum_cons]
    omega
theorem filterR_ne {p f : PyData → R PyData} {g : Int → PyData} : ∀ {L : List Int}, (∀ s ∈ L, p (g s) = .ok (.bool (decide (s ≠ 4)))) → (∀ s ∈ L, f (g s) = .ok (g s)) → filterR p f (L.map g) = .ok ((L.filter fun s => decide (s ≠ 4)).map g)
  | [], _, _ => rfl
  | s :: L, hp, hf => by
    have ih := filterR_ne (p := p) (f := f) (g := g) (L := L) (fun u hu => hp u (.tail _ hu)) fun u hu => hf u (.tail _ hu)
    rw [List.map_cons, filterR, hp s (.head _), hf s (.head _), ih]
    by_cases q : s = 4
    · simp [q]
    · simp [q]
theorem addN {a b : Nat} : binD .add (.int (a : Nat)) (.int (b : Nat)) = .ok (.int ((a + b : Nat) : Int)) := bin_add.trans (by rw [Int.natCast_add])
section
variable {c : Cx} (K : Ok c)
include K
theorem Ok.keepF {F : FT} {ρ : Rho} (hx : getV ρ 17 = .ok (.int (c.pl 4 : Nat))) (hl : getV ρ 16 = .ok (LI (pls c.pl c.sq))) : ev F ρ none (E.compIf E.cv (E.cmp .ne E.cv (E.var 17)) (E.var 16)) = .ok (LI c.keep) := by
  have e := filterR_ne (p := fun x => ev F ρ (some x) (E.cmp .ne E.cv (E.var 17))) (f := fun x => ev F ρ (some x) E.cv) (g := fun s => .int (c.pl s : Nat)) (L := c.sq) (fun s hs => by
    have hs5 := K.mem5.mp hs
    refine cCmp rfl hx (cmp_nei.trans ?_)
    by_cases q : s = 4
    · subst q; simp
    · have : ¬ ((c.pl s : Nat) : Int) = ((c.pl 4 : Nat) : Int) := fun z => q (K.inj s hs 4 (K.mem5.mpr (by omega)) (by omega))
      simp [q, this]) fun s _ => rfl
  have hf : c.sq.filter (fun s => decide (s ≠ 4)) = c.A ++ c.B := by
    have hn := K.nab.2
    unfold Cx.sq
    rw [List.filter_append, List.filter_cons]
    have h1 : c.A.filter (fun s => decide (s ≠ 4)) = c.A := List.filter_eq_self.mpr fun s hs => by
      have : s ≠ 4 := fun z => hn (by rw [← z]; exact List.mem_append_left _ hs)
      simp [this]
    have h2 : c.B.filter (fun s => decide (s ≠ 4)) = c.B := List.filter_eq_self.mpr fun s hs => by
      have : s ≠ 4 := fun z => hn (by rw [← z]; exact List.mem_append_right _ hs)
      simp [this]
    rw [h1, h2]
    simp
  rw [hf] at e
  refine (ev_compIfS (xs := c.sq.map fun s => .int (c.pl s : Nat)) (it hl ?_) e).trans ?_
  · simp [LI, pls, itemsD, Function.comp_def]
  · simp [LI, Cx.keep, pls, Function.comp_def]
theorem Ok.segB {x0 x1 x2 x3 x4 x8 x10 x17 x18 x19 x20 x21 x22 x23 x24 x25 x26 x27 x28 x29 x30 x31 x32 x35 x36 x37 x38 : VA} {o : Out} (k : evSs (Ft 22) (b22.drop 30) [x0, x1, x2, x3, x4, .v (LI c.sq), .v (.list (LL c.rows5)), .v (.int (c.tail : Nat)), x8, .v (.int (c.at' : Nat)), x10, .v (AD c.pl c.sq), .v (LI c.held), .v (.tuple [LI c.rts, .list (LL (c.rows.take c.met))]), .v (LI (tm c.MT)), .v (LI (tm (T c.ro c.pl c.sq))), .v (LI (pls c.pl c.sq)), .v (.int (c.pl 4 : Nat)), .v (.int ((c.p + 1 : Nat) : Int)), .v (LI c.keep), .v (LI (tm c.HT)), .v (LI (tm c.HT)), .v (.list (blkT 0 c.HT)), x23, x24, x25, x26, x27, x28, x29, x30, x31, x32, .v (LI c.rts), .v (.int (c.met : Nat)), x35, x36, x37, x38] = o) :
    evSs (Ft 22) (b22.drop 19) [x0, x1, x2, x3, x4, .v (LI c.sq), .v (.list (LL c.rows5)), .v (.int (c.tail : Nat)), x8, .v (.int (c.at' : Nat)), x10, .v (AD c.pl c.sq), .v (LI c.held), .v (.tuple [LI c.rts, .list (LL (c.rows.take c.met))]), .v (LI (tm c.MT)), .v (LI (tm (T c.ro c.pl c.sq))), .v (LI (pls c.pl c.sq)), x17, x18, x19, x20, x21, x22, x23, x24, x25, x26, x27, x28, x29, x30, x31, x32, .v (LI c.rts), .v (.int (c.met : Nat)), x35, x36, x37, x38] = o := by
  have h15 := K.at15
  have ht := K.t4
  have hp2 := K.p2
  have hp : c.pad.length = c.p := by simp [Cx.pad]
  have hfl : (tm (T c.ro c.pl c.sq)).length = c.at' := by rw [tm_len, tsz_T]; rfl
  have hMT : tm (T c.ro c.pl c.sq) ++ free c.tail = tm c.MT := K.mm1.2.symm
  have hi4 : idxD (.list (LL c.rows5)) (.int 4) = .ok (LI c.pad) := by rw [← K.ro4]; exact K.idxR (by omega)
  refine sAsg (cIdx rfl rfl (K.idxA (s := 4) (by omega))) ?_
  refine sAsg (cBin (cLen (cIdx rfl rfl hi4) (lenI.trans (by rw [hp]))) rfl (addN (b := 1))) ?_
  refine sAsg (K.keepF rfl rfl) ?_
  refine sAsg (d := LI (tm c.HT)) (cBin (cBin (cBin (cSlTo rfl rfl toI) (c1 rfl (f22 (e_free (by omega)) (by omega))) (addI ?_)) (cSlFrom rfl (cBin rfl rfl addN) fromI) (addI ?_)) (c1 rfl (f22 (e_free (by omega)) (by omega))) ((addI ?_).trans (by rw [K.wanted]))) ?_
  · rw [List.length_take, free_len]; omega
  · simp only [List.length_append, List.length_take, List.length_drop, free_len]; omega
  · simp only [List.length_append, List.length_take, List.length_drop, free_len]; omega
  refine sAsg (c2 rfl rfl (f22 K.sweepMT (by omega))) ?_
  refine kNo (cOrF (cCmp rfl rfl neS) (cOrF (cCmp rfl (cBin rfl (c1 rfl (f22 (e_free (by omega)) (by omega))) ((addI (by rw [free_len]; omega)).trans (by rw [hMT]))) neS) (cCmp (c2 rfl (cIdx rfl rfl hi4) (f22 K.allocMT (by omega))) (cTup (lC rfl (lC rfl lN))) neP))) ?_
  refine sAsg (d := .list (blkT 0 c.HT)) (cBin (ev_compS (it rfl rfl) (mapR_map (xs := c.sq) (g := .int) (h := fun s => PyData.tuple [.int (c.pl s : Nat), .int (((c.ro s).length : Int) + 1), .bool (decide (s = 4))]) fun s hs => cTup (lC (cIdx rfl rfl (K.idxA (K.mem5.mp hs))) (lC (cBin (cLen (cIdx rfl rfl (K.idxR (K.mem5.mp hs))) lenI) rfl bin_add) (lC (cCmp rfl rfl cmp_eqi) lN))))) (cBin (cL1 (cTup (lC rfl (lC rfl (lC rfl lN))))) (cMin rfl rfl) (bin_mulL ?_)) ((bin_addL ?_).trans (by rw [K.blocks]))) ?_
  · split <;> omega
  · rw [List.length_map, List.length_replicate]
    have := K.sq_len
    split <;> omega
  have hbl := e_blocks K.HTok K.HTle
  refine kNo (cOrF (cCmp (c1 rfl (f22 hbl (by omega))) rfl neK) (genAny (c1 rfl (f22 hbl (by omega))) ?_)) ?_
  · have : ∀ {R : List RT} {a : Nat} {ρ : Rho}, mapR (fun x => ev (Ft 22) ρ (some x) (E.isT false (E.idx E.cv (E.int 2)) "bool")) (blkT a R) = .ok ((blkT a R).map fun _ => .bool false) := fun {R} => by
      induction R with
      | nil => intro a ρ; rfl
      | cons t R ih =>
        intro a ρ
        have e : ev (Ft 22) ρ (some (bD a t)) (E.isT false (E.idx E.cv (E.int 2)) "bool") = .ok (.bool false) := cIsT (cIdx rfl rfl bD2) rfl
        rw [blkT_cons, mapR, e, ih]
        rfl
    exact this
  have hfw := e_freew K.HTok K.HTle
  rw [K.frw] at hfw
  have hob := e_objects K.HTok K.HTle
  rw [K.heads] at hob
  have hmo := K.memok (ws := []) (by simp)
  rw [List.append_nil] at hmo
  refine kNo (cOrF (cCmp (c1 rfl (f22 hob (by omega))) rfl neS) (cOrF (cCmp (c1 rfl (f22 hfw (by omega))) (cBin rfl rfl addN) neI) (cIsC (c2 rfl rfl (f22 hmo (by omega))) rfl rfl))) ?_
  have hle := K.g.le
  have hks : PyData.list ((List.range c.met).map fun i : Nat => .int (c.pl (i : Int) : Nat)) = LI (pls c.pl (ks c.met)) := by simp [LI, pls, ks, Function.comp_def]
  have hsh : fn 19 [LI (tm c.HT), LI c.held] = _ := K.shape K.szX (Y := fz c.tail) (by rw [fz_sz]; omega)
  have hre : fn 11 [LI (tm c.HT), LI c.held] = _ := K.reach (Y := fz c.tail) K.szX
  have hlw : fn 12 [LI (tm c.HT), LI c.held] = _ := K.livew (Y := fz c.tail) K.szX
  refine kNo (cOrF (cCmp (c2 rfl rfl (f22 hsh (by omega))) rfl neQ) (cCmp (c2 rfl rfl (f22 hre (by omega))) ((ev_compS (itr rfl (rangeD_nat (by omega))) (mapR_map (xs := List.range c.met) (g := fun i : Nat => .int (i : Nat)) (h := fun i : Nat => .int (c.pl (i : Int) : Nat)) fun i hi => cIdx rfl rfl (K.idxA (by have := List.mem_range.mp hi; omega)))).trans (congrArg R.ok hks)) neS)) ?_
  have hgs := genSum (F := Ft 22) (ρ := [x0, x1, x2, x3, x4, .v (LI c.sq), .v (.list (LL c.rows5)), .v (.int (c.tail : Nat)), x8, .v (.int (c.at' : Nat)), x10, .v (AD c.pl c.sq), .v (LI c.held), .v (.tuple [LI c.rts, .list (LL (c.rows.take c.met))]), .v (LI (tm c.MT)), .v (LI (tm (T c.ro c.pl c.sq))), .v (LI (pls c.pl c.sq)), .v (.int (c.pl 4 : Nat)), .v (.int ((c.p + 1 : Nat) : Int)), .v (LI c.keep), .v (LI (tm c.HT)), .v (LI (tm c.HT)), .v (.list (blkT 0 c.HT)), x23, x24, x25, x26, x27, x28, x29, x30, x31, x32, .v (LI c.rts), .v (.int (c.met : Nat)), x35, x36, x37, x38]) (elt := E.bin .add (E.len E.cv) (E.int 1)) (src := E.idx (E.var 13) (E.int 1)) (is := (c.rows.take c.met).map fun r => ((r.length : Nat) : Int) + 1) (cIdx rfl rfl idx21)
    (by
      rw [List.map_map]
      exact mapR_map (xs := c.rows.take c.met) (g := LI) fun r _ => cBin (cLen rfl lenI) rfl bin_add)
  have hsum : ((((c.rows.take c.met).map fun r => r.length + 1).sum : Nat) : Int) = ((c.rows.take c.met).map fun r => ((r.length : Nat) : Int) + 1).sum := sum_cast
  rw [← hsum] at hgs
  refine kNo (cCmp (c2 rfl rfl (f22 hlw (by omega))) hgs neI) ?_
  exact k
end
end Mine.L1

-- K13
namespace Mine.L1
open PySem Mine

abbrev sFull : Str := Str.ofString "full"
abbrev sSmall : Str := Str.ofString "small"
theorem ok_full : PyData.strOk sFull = true := by decide +kernel
theorem ok_small : PyData.strOk sSmall = true := by decide +kernel
theorem subN {a b n : Nat} (h : a = n + b) : binD .sub (.int (a : Nat)) (.int (b : Nat)) = .ok (.int (n : Nat)) := bin_sub.trans (by rw [h]; congr 2; omega)
theorem leT {a b : Nat} (h : a ≤ b) : cmpD .le (.int (a : Nat)) (.int (b : Nat)) = .ok (.bool true) := cmp_le.trans (by rw [decide_eq_true (by omega)])
theorem leF {a b : Nat} (h : b < a) : cmpD .le (.int (a : Nat)) (.int (b : Nat)) = .ok (.bool false) := cmp_le.trans (by rw [decide_eq_false (by omega)])
theorem geT {a b : Nat} (h : b ≤ a) : cmpD .ge (.int (a : Nat)) (.int (b : Nat)) = .ok (.bool true) := cmp_ge.trans (by rw [decide_eq_true (by omega)])
theorem geF {a b : Nat} (h : a < b) : cmpD .ge (.int (a : Nat)) (.int (b : Nat)) = .ok (.bool false) := cmp_ge.trans (by rw [decide_eq_false (by omega)])
section
variable {c : Cx} (K : Ok c) {ns : List Int} (hns : 24 ≤ ns.length)
include K hns
theorem Ok.segC {x2 x3 x4 x8 x10 x23 x24 x25 x26 x27 x28 x29 x30 x31 x32 x35 x36 x37 x38 : VA} {o : Out} (k : ∀ x23 x24 x25 x26 x27 x36, evSs (Ft 22) (b22.drop 40) [.v (LI ns), .v (.int c.num), x2, x3, x4, .v (LI c.sq), .v (.list (LL c.rows5)), .v (.int (c.tail : Nat)), x8, .v (.int (c.at' : Nat)), x10, .v (AD c.pl c.sq), .v (LI c.held), .v (.tuple [LI c.rts, .list (LL (c.rows.take c.met))]), .v (LI (tm c.MT)), .v (LI (tm (T c.ro c.pl c.sq))), .v (LI (pls c.pl c.sq)), .v (.int (c.pl 4 : Nat)), .v (.int ((c.p + 1 : Nat) : Int)), .v (LI c.keep), .v (LI (tm c.HT)), .v (LI (tm c.HT)), .v (.list (blkT 0 c.HT)), x23, x24, x25, x26, x27, x28, x29, x30, x31, x32, .v (LI c.rts), .v (.int (c.met : Nat)), x35, x36, x37, x38] = o) :
    evSs (Ft 22) (b22.drop 30) [.v (LI ns), .v (.int c.num), x2, x3, x4, .v (LI c.sq), .v (.list (LL c.rows5)), .v (.int (c.tail : Nat)), x8, .v (.int (c.at' : Nat)), x10, .v (AD c.pl c.sq), .v (LI c.held), .v (.tuple [LI c.rts, .list (LL (c.rows.take c.met))]), .v (LI (tm c.MT)), .v (LI (tm (T c.ro c.pl c.sq))), .v (LI (pls c.pl c.sq)), .v (.int (c.pl 4 : Nat)), .v (.int ((c.p + 1 : Nat) : Int)), .v (LI c.keep), .v (LI (tm c.HT)), .v (LI (tm c.HT)), .v (.list (blkT 0 c.HT)), x23, x24, x25, x26, x27, x28, x29, x30, x31, x32, .v (LI c.rts), .v (.int (c.met : Nat)), x35, x36, x37, x38] = o := by
  have h15 := K.at15
  have ht := K.t4
  have hp2 := K.p2
  have hsz := K.HTsz
  have hlen : (tm c.HT).length = tsz c.HT := tm_len
  have hat : c.pl 4 + (c.p + 1) ≤ c.at' := by rw [K.at_eq, K.pl4]; omega
  obtain ⟨e, he⟩ : ∃ e : Nat, gt ns 19 % 5 = (e : Nat) := ⟨(gt ns 19 % 5).toNat, by omega⟩
  have he4 : e ≤ 4 := by omega
  have hf : (List.replicate e c.num).length = e := List.length_replicate
  refine sAsg (cBin (cL1 rfl) (cBin (cIdx rfl rfl (ix hns (i := 19) (by omega))) rfl (bin_mod (by omega))) (mulI he (by omega))) ?_
  generalize List.replicate e c.num = f at *
  subst hf
  refine sAsg (cBin (cLen rfl lenI) rfl (addN (b := 1))) (sAsg rfl (sAsg rfl ?_))
  by_cases q : f.length ≤ c.p
  · refine kYes (cCmp rfl rfl (geT (by omega))) (sAsg rfl (sAsg rfl rfl)) (sAsg rfl ?_)
    have eW := K.want1 q
    have eS := e_swept (M := c.keep) (K.mx_ok (X := tO f :: fz (c.p - f.length)) (Y := fz c.tail) okO fz_ok) (by rw [K.mx_sz (K.szO (by omega)), fz_sz]; omega)
    rw [K.hole (by omega)] at eS
    have eX : tsz (tO f :: fz (c.p - f.length)) = c.p + 1 := K.szO (by omega)
    refine kYes (cCmp rfl rfl (leT (by omega))) (sAsg (d := .tuple [LI (tm (c.mx (tO f :: fz (c.p - f.length)) (fz c.tail))), .int (c.pl 4 : Nat)]) (cTup (lC (cBin (cBin (cBin (cBin (cSlTo rfl rfl toI) (cL1 (cBin rfl rfl (subN (b := 1) rfl))) (addI (n := [_]) ?_)) rfl (addI ?_)) (c1 (cBin rfl rfl (subN (n := c.p - f.length) ?_)) (f22 (e_free (by omega)) (by omega))) (addI ?_)) (cSlFrom rfl (cBin rfl rfl addN) fromI) ((addI ?_).trans (by rw [eW]))) (lC rfl lN))) rfl) ?_
    · rw [List.length_take, List.length_singleton]; omega
    · simp only [List.length_append, List.length_take, List.length_singleton]; omega
    · omega
    · simp only [List.length_append, List.length_take, List.length_singleton, free_len]; omega
    · simp only [List.length_append, List.length_take, List.length_singleton, free_len, List.length_drop]; omega
    refine sTryN (sAsg (c2 rfl rfl (f22 (K.al1 q) (by omega))) rfl) (kNo (cCmp rfl rfl neP) ?_)
    exact kNo (cAndT (cCmp rfl rfl (leT (by omega))) (cOrF (cCmp (c2 (cIdx rfl rfl idx20) rfl (f22 (K.fx1 q) (by omega))) rfl neS) (cOrF (cCmp (c2 (cIdx rfl rfl idx20) rfl (f22 (K.shape eX (by rw [fz_sz]; omega)) (by omega))) rfl neQ) (cCmp (c2 (cIdx rfl rfl idx20) rfl (f22 eS (by omega))) rfl neS)))) (k _ _ _ _ _ _)
  · have q : c.p < f.length := by omega
    refine kNo (cCmp rfl rfl (geF (by omega))) (sAsg rfl ?_)
    by_cases r : f.length + 1 ≤ c.tail
    · obtain ⟨n, hn⟩ : ∃ n, c.tail = n + 1 := ⟨c.tail - 1, by omega⟩
      have hfn : f.length ≤ n := by omega
      have eW := K.want2 (f := f) hn hfn
      have eY : tsz (tO f :: fz (n - f.length)) = c.tail := by simp only [tsz_cons, fz_sz, tO]; omega
      have eS := e_swept (M := c.keep) (K.mx_ok (X := [tF c.p]) (Y := tO f :: fz (n - f.length)) K.okX okO) (by rw [K.mx_sz K.szX, eY]; omega)
      rw [K.hole2 (by omega)] at eS
      refine kYes (cCmp rfl rfl (leT (by omega))) (sAsg (d := .tuple [LI (tm (c.mx [tF c.p] (tO f :: fz (n - f.length)))), .int (c.at' : Nat)]) (cTup (lC (cBin (cBin (cBin (cBin (cSlTo rfl rfl toI) (cL1 (cBin rfl rfl (subN (b := 1) rfl))) (addI (n := [_]) ?_)) rfl (addI ?_)) (c1 (cBin rfl rfl (subN (n := n - f.length) ?_)) (f22 (e_free (by omega)) (by omega))) (addI ?_)) (cSlFrom rfl (cBin rfl rfl addN) fromI) ((addI ?_).trans (by rw [eW]))) (lC rfl lN))) rfl) ?_
      · rw [List.length_take, List.length_singleton]; omega
      · simp only [List.length_append, List.length_take, List.length_singleton]; omega
      · omega
      · simp only [List.length_append, List.length_take, List.length_singleton, free_len]; omega
      · simp only [List.length_append, List.length_take, List.length_singleton, free_len, List.length_drop]; omega
      refine sTryN (sAsg (c2 rfl rfl (f22 (K.al2 q hn hfn) (by omega))) rfl) (kNo (cCmp rfl rfl neP) ?_)
      exact kNo (cAndT (cCmp rfl rfl (leT (by omega))) (cOrF (cCmp (c2 (cIdx rfl rfl idx20) rfl (f22 K.fx2 (by omega))) rfl neS) (cOrF (cCmp (c2 (cIdx rfl rfl idx20) rfl (f22 (K.shape K.szX (by rw [eY]; omega)) (by omega))) rfl neQ) (cCmp (c2 (cIdx rfl rfl idx20) rfl (f22 eS (by omega))) rfl neS)))) (k _ _ _ _ _ _)
    · refine kNo (cCmp rfl rfl (leF (by omega))) (sTryX (sAsgX (cCallX (lC rfl (lC rfl lN)) (f22 (K.al3 q (by omega) (by omega)) (by omega)))) rfl (kNo (cCmp rfl rfl (cmp_ne_self (n := 0) (Fg.str ok_full) (by omega))) ?_))
      exact kNo (cAndF (cCmp rfl rfl (leF (by omega)))) (k _ _ _ _ _ _)
theorem Ok.segD {x2 x3 x4 x8 x10 x23 x24 x25 x26 x27 x28 x29 x30 x31 x32 x35 x36 x37 x38 : VA} {o : Out} (k : ∀ x28 x29 x30 x31 x37 x38, evSs (Ft 22) (b22.drop 47) [.v (LI ns), .v (.int c.num), x2, x3, x4, .v (LI c.sq), .v (.list (LL c.rows5)), .v (.int (c.tail : Nat)), x8, .v (.int (c.at' : Nat)), x10, .v (AD c.pl c.sq), .v (LI c.held), .v (.tuple [LI c.rts, .list (LL (c.rows.take c.met))]), .v (LI (tm c.MT)), .v (LI (tm (T c.ro c.pl c.sq))), .v (LI (pls c.pl c.sq)), .v (.int (c.pl 4 : Nat)), .v (.int ((c.p + 1 : Nat) : Int)), .v (LI c.keep), .v (LI (tm c.HT)), .v (LI (tm c.HT)), .v (.list (blkT 0 c.HT)), x23, x24, x25, x26, x27, x28, x29, x30, x31, x32, .v (LI c.rts), .v (.int (c.met : Nat)), x35, x36, x37, x38] = o) :
    evSs (Ft 22) (b22.drop 40) [.v (LI ns), .v (.int c.num), x2, x3, x4, .v (LI c.sq), .v (.list (LL c.rows5)), .v (.int (c.tail : Nat)), x8, .v (.int (c.at' : Nat)), x10, .v (AD c.pl c.sq), .v (LI c.held), .v (.tuple [LI c.rts, .list (LL (c.rows.take c.met))]), .v (LI (tm c.MT)), .v (LI (tm (T c.ro c.pl c.sq))), .v (LI (pls c.pl c.sq)), .v (.int (c.pl 4 : Nat)), .v (.int ((c.p + 1 : Nat) : Int)), .v (LI c.keep), .v (LI (tm c.HT)), .v (LI (tm c.HT)), .v (.list (blkT 0 c.HT)), x23, x24, x25, x26, x27, x28, x29, x30, x31, x32, .v (LI c.rts), .v (.int (c.met : Nat)), x35, x36, x37, x38] = o := by
  have h15 := K.at15
  have ht := K.t4
  have hsz := K.HTsz
  have hlen : (tm c.HT).length = tsz c.HT := tm_len
  have hw : ∀ {p : Int}, decide (0 ≤ p) = true → decide (p % 2 = 0) = false → wOk c.keep p = decide (p / 2 ∈ c.keep) := fun {p} h1 h2 => by
    have h1 := of_decide_eq_true h1
    have h2 := of_decide_eq_false h2
    have h3 : p % 2 = 1 := by omega
    unfold wOk
    simp [h1, h3]
  refine sAsg (cBin (cBin (cIdx rfl rfl (ix hns (i := 20) (by omega))) (cBin (cBin rfl (cLen rfl lenI) bin_mul2) rfl bin_add) (bin_mod (by omega))) rfl bin_sub) ?_
  generalize gt ns 20 % (2 * ((tm c.HT).length : Int) + 4) - 2 = pv
  refine sAsg (d := .bool (wOk c.keep pv)) ?_ ?_
  · by_cases q : 0 ≤ pv
    · refine cAndT (cCmp rfl rfl (cmp_ge.trans (by rw [decide_eq_true q]))) ?_
      by_cases r : pv % 2 = 0
      · have : wOk c.keep pv = true := by
          unfold wOk
          rw [decide_eq_true_eq]
          exact ⟨q, fun z => by omega⟩
        rw [this]
        exact cOrT (cCmp (cBin rfl rfl bin_mod2) rfl (cmp_eqi.trans (by rw [decide_eq_true r])))
      · rw [hw (decide_eq_true q) (decide_eq_false r)]
        exact cOrF (cCmp (cBin rfl rfl bin_mod2) rfl (cmp_eqi.trans (by rw [decide_eq_false r]))) (cCmp (cBin rfl rfl bin_fdiv2) rfl cmp_isin)
    · have : wOk c.keep pv = false := by
        unfold wOk
        rw [decide_eq_false_iff_not]
        exact fun z => q z.1
      rw [this]
      exact cAndF (cCmp rfl rfl (cmp_ge.trans (by rw [decide_eq_false q])))
  have hmo := K.memok (ws := [pv]) (by simp)
  rw [List.all_cons, List.all_nil, Bool.and_true] at hmo
  refine kNo (cCmp (c2 rfl (cBin rfl (cL1 rfl) (addI (n := [_]) (by rw [K.held_len, List.length_singleton]; omega))) (f22 hmo (by omega))) rfl neB) ?_
  have hj : 0 ≤ gt ns 21 % 4 ∧ gt ns 21 % 4 < 4 := by omega
  have I21 := ix hns (i := 21) (by omega)
  generalize gt ns 21 = s21 at *
  refine sAsg (cIdx rfl (cBin (cIdx rfl rfl I21) rfl bin_mod4) (K.idxA (by omega))) ?_
  refine sAsg (c2 (cIdx rfl (cBin (cIdx rfl rfl I21) rfl bin_mod4) (K.idxR (by omega))) rfl (f22 (K.laid (by omega)) (by omega))) ?_
  generalize s21 % 4 = j at *
  have hdm : fn 15 [LI (tm c.HT), .list (blkT 0 c.HT), .int (c.pl j : Nat), .int (gt ns 22 % 2)] = .ok (.bool true) := K.damage hj (by omega)
  by_cases q : (c.lr j).length = 0
  · refine kNo (cCmp (cLen rfl lenI) rfl (cmp_gt.trans (by rw [decide_eq_false (by omega)]))) ?_
    exact kNo (cNot (q := true) (cCall (lC rfl (lC rfl (lC rfl (lC (cBin (cIdx rfl rfl (ix hns (i := 22) (by omega))) rfl bin_mod2) lN)))) (f22 hdm (by omega)))) (k _ _ _ _ _ _)
  · obtain ⟨i, hi⟩ : ∃ i : Nat, gt ns 22 % ((c.lr j).length : Nat) = (i : Nat) := ⟨(gt ns 22 % ((c.lr j).length : Nat)).toNat, by have := Int.emod_nonneg (gt ns 22) (b := ((c.lr j).length : Nat)) (by omega); omega⟩
    have hil : i < (c.lr j).length := by
      have := Int.emod_lt_of_pos (gt ns 22) (b := ((c.lr j).length : Nat)) (by omega)
      omega
    have hlr : (c.lr j).length = (c.ro j).length := by unfold Cx.lr; rw [List.length_map]
    have hrl := (K.row5 (K.mem5.mpr (show 0 ≤ j ∧ j < 5 by omega))).1
    have hpl : c.pl j + ((c.ro j).length + 1) ≤ c.at' := plc_lt (K.mem5.mpr (by omega))
    obtain ⟨p1, p2, p3, p4⟩ := K.put (w := pv) hj hil
    have e1 : (tm c.HT).set (c.pl j + 1 + i) pv = (tm c.HT).take (c.pl j + 1 + i) ++ [pv] ++ (tm c.HT).drop (c.pl j + 2 + i) := by
      rw [List.set_eq_take_append_cons_drop, if_pos (by omega), show c.pl j + 1 + i + 1 = c.pl j + 2 + i by omega]
      simp
    have e2 : (c.lr j).set i pv = (c.lr j).take i ++ [pv] ++ (c.lr j).drop (i + 1) := by
      rw [List.set_eq_take_append_cons_drop, if_pos hil]
      simp
    have e3 : idxD (LI (c.lr j)) (.int (i : Nat)) = .ok (.int (c.lr j)[i]) := idx_LI (List.getElem?_eq_getElem hil)
    refine kYes (cCmp (cLen rfl lenI) rfl (cmp_gt.trans (by rw [decide_eq_true (by omega)]))) (sAsg (cBin (cIdx rfl rfl (ix hns (i := 22) (by omega))) (cLen rfl lenI) ((bin_mod (by omega)).trans (by rw [hi]))) (sAsg (cCall (lC rfl (lC rfl (lC rfl (lC rfl lN)))) (f22 p1 (by omega)))
      (kNo (cOrF (cCmp rfl (cBin (cBin (cSlTo rfl (cBin (cBin rfl rfl (addN (b := 1))) rfl addN) toI) (cL1 rfl) (addI (n := [_]) ?_)) (cSlFrom rfl (cBin (cBin rfl rfl (addN (b := 2))) rfl addN) fromI) ((addI ?_).trans (by rw [e1]))) neS) (cCmp (c2 rfl rfl (f22 p2 (by omega))) rfl neB))
      (kNo (cOrF (cCmp (c2 rfl rfl (f22 p3 (by omega))) (cBin (cBin (cSlTo rfl rfl toI) (cL1 rfl) (addI (n := [_]) ?_)) (cSlFrom rfl (cBin rfl rfl (addN (b := 1))) fromI) ((addI ?_).trans (by rw [e2]))) neS) (cCmp (cCall (lC rfl (lC rfl (lC rfl (lC (cIdx rfl rfl e3) lN)))) (f22 p4 (by omega))) rfl neS)) rfl)))) ?_
    · rw [List.length_take, List.length_singleton]; omega
    · simp only [List.length_append, List.length_take, List.length_singleton, List.length_drop]; omega
    · rw [List.length_take, List.length_singleton]; omega
    · simp only [List.length_append, List.length_take, List.length_singleton, List.length_drop]; omega
    exact kNo (cNot (q := true) (cCall (lC rfl (lC rfl (lC rfl (lC (cBin (cIdx rfl rfl (ix hns (i := 22) (by omega))) rfl bin_mod2) lN)))) (f22 hdm (by omega)))) (k _ _ _ _ _ _)
theorem Ok.segE {x2 x3 x4 x8 x10 x23 x24 x25 x26 x27 x28 x29 x30 x31 x32 x35 x36 x37 x38 : VA} : evSs (Ft 22) (b22.drop 47) [.v (LI ns), .v (.int c.num), x2, x3, x4, .v (LI c.sq), .v (.list (LL c.rows5)), .v (.int (c.tail : Nat)), x8, .v (.int (c.at' : Nat)), x10, .v (AD c.pl c.sq), .v (LI c.held), .v (.tuple [LI c.rts, .list (LL (c.rows.take c.met))]), .v (LI (tm c.MT)), .v (LI (tm (T c.ro c.pl c.sq))), .v (LI (pls c.pl c.sq)), .v (.int (c.pl 4 : Nat)), .v (.int ((c.p + 1 : Nat) : Int)), .v (LI c.keep), .v (LI (tm c.HT)), .v (LI (tm c.HT)), .v (.list (blkT 0 c.HT)), x23, x24, x25, x26, x27, x28, x29, x30, x31, x32, .v (LI c.rts), .v (.int (c.met : Nat)), x35, x36, x37, x38] = .ret (.bool true) := by
  refine sAsg (cAbs (cIdx rfl rfl (ix hns (i := 20) (by omega)))) ?_
  generalize (if gt ns 20 < 0 then -gt ns 20 else gt ns 20) = k
  have h1 : (2 * k + 1) / 2 = k := by omega
  have h2 : 2 * k / 2 = k := by omega
  have a1 := e_addr (2 * k + 1)
  have a2 := e_num (2 * k)
  rw [h1] at a1
  rw [h2] at a2
  have p1 := e_ptr (2 * k + 1)
  have p2 := e_ptr (2 * k)
  rw [decide_eq_true (by omega)] at p1
  rw [decide_eq_false (by omega)] at p2
  have c18 : ∀ {ρ : Rho}, getV ρ 32 = .ok (.int k) → ev (Ft 22) ρ none (E.call 18 [E.var 32]) = .ok (.int (2 * k + 1)) := fun h => c1 h (f22 (e_pto k) (by omega))
  have c20 : ∀ {ρ : Rho}, getV ρ 32 = .ok (.int k) → ev (Ft 22) ρ none (E.call 20 [E.var 32]) = .ok (.int (2 * k)) := fun h => c1 h (f22 (e_won k) (by omega))
  refine kNo (cOrF (cCmp (c18 rfl) (cBin (cBin rfl rfl bin_mul2) rfl bin_add) neI) (cOrF (cCmp (c20 rfl) (cBin rfl rfl bin_mul2) neI) (cOrF (cCmp (c1 (c18 rfl) (f22 a1 (by omega))) rfl neI) (cCmp (c1 (c20 rfl) (f22 a2 (by omega))) rfl neI)))) ?_
  refine kNo (cOrF (cIsC (c1 (c18 rfl) (f22 p1 (by omega))) rfl rfl) (cIsC (c1 (c20 rfl) (f22 p2 (by omega))) rfl rfl)) ?_
  have I23 := ix hns (i := 23) (by omega)
  have hr : gt ns 23 % 4 = 0 ∨ gt ns 23 % 4 = 1 ∨ gt ns 23 % 4 = 2 ∨ gt ns 23 % 4 = 3 := by omega
  generalize gt ns 23 = s23 at *
  have tl : ∀ x36 : VA, evSs (Ft 22) (b22.drop 52) [.v (LI ns), .v (.int c.num), x2, x3, x4, .v (LI c.sq), .v (.list (LL c.rows5)), .v (.int (c.tail : Nat)), x8, .v (.int (c.at' : Nat)), x10, .v (AD c.pl c.sq), .v (LI c.held), .v (.tuple [LI c.rts, .list (LL (c.rows.take c.met))]), .v (LI (tm c.MT)), .v (LI (tm (T c.ro c.pl c.sq))), .v (LI (pls c.pl c.sq)), .v (.int (c.pl 4 : Nat)), .v (.int ((c.p + 1 : Nat) : Int)), .v (LI c.keep), .v (LI (tm c.HT)), .v (LI (tm c.HT)), .v (.list (blkT 0 c.HT)), x23, x24, x25, x26, x27, x28, x29, x30, x31, .v (.int k), .v (LI c.rts), .v (.int (c.met : Nat)), x35, x36, x37, x38] = .ret (.bool true) := fun x36 =>
    kNo (cOrF (cCmp rfl rfl neS) (cCmp rfl (c2 rfl rfl (f22 K.laidH (by omega))) neS)) (sRet rfl)
  have nS : cmpD .ne (.str sSmall) (.str sSmall) = .ok (.bool false) := cmp_ne_self (n := 0) (Fg.str ok_small) (by omega)
  have tp : ∀ {ρ : Rho} {d : PyData}, getV ρ 0 = .ok (LI ns) → idxD (.tuple [.str sSmall, .str sSmall, LI [-1], LI [-2, 0]]) (.int (s23 % 4)) = .ok d → ev (Ft 22) ρ none (E.idx (E.tup [(E.str sSmall), (E.str sSmall), (E.lst [(E.neg (E.int 1))]), (E.lst [(E.neg (E.int 2)), (E.int 0)])]) (E.bin .mod (E.idx (E.var 0) (E.int 23)) (E.int 4))) = .ok d := fun h0 hd =>
    cIdx (cTup (lC rfl (lC rfl (lC (cLst (lC (cNeg rfl rfl) lN)) (lC (cLst (lC (cNeg rfl rfl) (lC rfl lN))) lN))))) (cBin (cIdx h0 rfl I23) rfl bin_mod4) hd
  have ar : ∀ {ρ : Rho} {d : Int}, getV ρ 0 = .ok (LI ns) → s23 % 4 - 1 = d → ev (Ft 22) ρ none (E.bin .sub (E.bin .mod (E.idx (E.var 0) (E.int 23)) (E.int 4)) (E.int 1)) = .ok (.int d) := fun h0 hd =>
    cBin (cBin (cIdx h0 rfl I23) rfl bin_mod4) rfl (bin_sub.trans (by rw [hd]))
  rcases hr with r | r | r | r
  · exact sTryX (sAsgX (cCallX (lC (ar rfl rfl) lN) (f22 (e_fm0 (by omega)) (by omega)))) rfl (kNo (cCmp rfl (tp rfl (by rw [r]; rfl)) nS) (tl _))
  · exact sTryX (sAsgX (cCallX (lC (ar rfl rfl) lN) (f22 (e_fm0 (by omega)) (by omega)))) rfl (kNo (cCmp rfl (tp rfl (by rw [r]; rfl)) nS) (tl _))
  · exact sTryN (sAsg (c1 (ar (d := ((0 : Nat) : Int) + 1) rfl (by omega)) (f22 (e_fm (by omega)) (by omega))) rfl) (kNo (cCmp rfl (tp rfl (by rw [r]; rfl)) (neS (m := [-1]))) (tl _))
  · exact sTryN (sAsg (c1 (ar (d := ((1 : Nat) : Int) + 1) rfl (by omega)) (f22 (e_fm (by omega)) (by omega))) rfl) (kNo (cCmp rfl (tp rfl (by rw [r]; rfl)) (neS (m := [-2, 0]))) (tl _))
end
theorem law_ev {ns : List Int} : evSs (Ft 22) b22 (.v (LI ns) :: List.replicate 38 .un) = .ret (.bool true) := by
  by_cases h : 24 ≤ ns.length
  · have K : Ok (cx ns) := cx_ok
    refine segA h _ rfl fun x2 x3 x4 x8 x10 x35 x36 => ?_
    generalize cx ns = c at *
    rw [K.mm1.1]
    exact K.segB (K.segC h fun _ _ _ _ _ _ => K.segD h fun _ _ _ _ _ _ => K.segE h)
  · have e : ev (Ft 22) (.v (LI ns) :: List.replicate 38 .un) none (E.cmp .lt (E.len (E.var 0)) (E.int 24)) = .ok (.bool true) := cCmp (cLen rfl lenI) rfl (cmp_lt.trans (by rw [decide_eq_true (by omega)]))
    exact stepR ((stepT e).trans (sRet rfl))
end Mine.L1

-- F1
namespace Mine
theorem final1 : PySem.Challenge.rw_sx_ycinder_1.Holds := L1.join1 fun ns => L1.law_ev (ns := ns)
end Mine

theorem PySem.Challenge.cw_sx_ycinder_1_holds : PySem.Challenge.rw_sx_ycinder_1.Holds :=
  Mine.final1
