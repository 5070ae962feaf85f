import PyProof.Rows.All
import Wide.All
import OpenK.AllK
import Wide.FinOn
import HandS.ForMost
import KE.KDictKeyed
import KE.KDictWalk
import KE.DataEq
import KE.SortData
import KE.KeyNested
import PyProof.ReprReads
import HandS.TupAny
import PyProof.Rows.SeqMore
import PyProof.Rows.ListMulArg
import HandS.TupMul
import HandS.Wide
import HandS.WideBits
import KE.KEqDict
import KE.DataCmp
import PyProof.Rows.RuleIs
import HandS.Text
import HandS.IsInst
import HandS.TupLen
import HandS.Iter
import HandS.Zip
import HandS.Rev
import HandS.Style
import KE.GoesEnum
import HandS.Comp
import HandS.Defaults
import HandS.Words
import HandS.HeadHook2
import HandS.HeadEnd
import HandS.Head2
import KE.KStateDown
import KE.DatumOrd
import PySem.Challenge.RW_leaptover_k89_least_lines_count_up
set_option Elab.async false
section
set_option linter.all false
set_option maxRecDepth 100000
/-! The small language: terms over slots, what they come to. -/
namespace LT
open PySem

abbrev D := PyData
inductive O2 where | add | sub | mul | fdiv | mod | pow | shl | shr | band | bor | bxor
  deriving DecidableEq
inductive Cm where | eq | ne | lt | le | gt | ge | isin | notin | is_ | isnot
  deriving DecidableEq
/-- how an argument is handed on: as a value, to be read alone, to be changed -/
inductive Md where | a | b | io
  deriving DecidableEq
inductive Ty where | int | bool | tuple | str
  deriving DecidableEq
inductive Tg where
  | nm (i : Nat)
  | tp (is : List Nat)
mutual
inductive Ex where
  | v (i : Nat)
  | k (d : D)
  | bin (o : O2) (a b : Ex)
  | neg (a : Ex)
  | cmp (c : Cm) (a b : Ex)
  | chn (c1 c2 : Cm) (a b c : Ex)
  | and_ (a b : Ex)
  | or_ (a b : Ex)
  | not_ (a : Ex)
  | ite (c a b : Ex)
  | tup (es : List Ex)
  | lst (es : List Ex)
  | dct0
  | dct1 (k v : Ex)
  | ix (a i : Ex)
  | slc (a lo hi : Ex)
  | rev (a : Ex)
  | att (a : Ex) (f : Nat)
  | call (f : String) (as : List Ag)
  | new (c : Int) (f : String) (as : List Ag)
  | len (a : Ex)
  | tupI (it : It)
  | lstI (it : It)
  | dctI (it : It)
  | srt (it : It)
  | srtS (it : It)
  | srtK (m : Nat) (it : It)
  | lenS (it : It)
  | sum (a : Ex)
  | any (a : Ex)
  | all (a : Ex)
  | min (a : Ex)
  | max (a : Ex)
  | min2 (a b : Ex)
  | max2 (a b : Ex)
  | abs (a : Ex)
  | int (a : Ex)
  | str (a : Ex)
  | reqr (a b : Ex)
  | isi (a : Ex) (t : Ty)
  | comp (elt : Ex) (tg : Tg) (it : It) (c : Ex)
  | pop (i : Nat)
  | get (a k d : Ex)
  | idx (a x : Ex)
inductive It where
  | seq (e : Ex)
  | lst (e : Ex)
  | sq (e : Ex)
  | rng (es : List Ex)
  | enum (e : Ex)
  | zip (a b : Ex)
  | items (e : Ex)
  | vals (e : Ex)
  | ent (e : Ex)
inductive Ag where
  | a (e : Ex)
  | b (e : Ex)
  | io (i : Nat)
end
inductive St where
  | asg (i : Nat) (e : Ex)
  | asgT (is : List Nat) (e : Ex)
  | par (is : List Nat) (es : List Ex)
  | setI (i : Nat) (k e : Ex)
  | setA (i : Nat) (f : Nat) (e : Ex)
  | setAI (i : Nat) (f : Nat) (k e : Ex)
  | app (i : Nat) (e : Ex)
  | ext (i : Nat) (e : Ex)
  | upd (i : Nat) (e : Ex)
  | ex (e : Ex)
  | ifs (c : Ex) (t e : List St)
  | for_ (tg : Tg) (it : It) (body : List St)
  | whl (c : Ex) (body : List St)
  | ret (e : Ex)
  | ret0
  | brk
  | cnt
  | pas
  | rai

/-! ### slots -/
inductive Sl where
  | un
  | va (d : D)
  | ow (d : D)
  | io (d : D)
  | bo (d : D)
abbrev Ro := List Sl
/-- what an expression comes to: a slot's value, or a datum (owned by nobody else) -/
inductive Hd where
  | s (i : Nat)
  | d (x : D) (own : Bool)
inductive Oc where
  | nx (ρ : Ro)
  | rt (d : D) (own : Bool) (ρ : Ro)
  | bk (ρ : Ro)
  | ct (ρ : Ro)
def Ro.at (ρ : Ro) (i : Nat) : Sl := ρ.getD i .un
/-- a slot is read -/
def rd (ρ : Ro) (i : Nat) : Option D := match ρ.at i with
  | .va d | .ow d | .io d | .bo d => some d
  | .un => none
def Hd.get (ρ : Ro) : Hd → Option D
  | .s i => rd ρ i
  | .d x _ => some x
/-- no list, no dict, no instance itself -/
def flat : D → Bool
  | .list _ | .dict _ => false
  | _ => true
/-- a value that goes elsewhere: an owned one is owned no more -/
def esc (ρ : Ro) : Hd → Option (D × Bool × Ro)
  | .s i => match ρ.at i with
    | .va d => some (d, false, ρ)
    | .ow d => some (d, false, ρ.set i (.va d))
    | .bo d => if flat d then some (d, false, ρ) else none
    | _ => none
  | .d x o => some (x, o, ρ)
/-- a value that is walked -/
def wlk (ρ : Ro) : Hd → Option (D × Ro)
  | .s i => match ρ.at i with
    | .va d => some (d, ρ)
    | .ow d => some (d, ρ.set i (.va d))
    | .bo d => some (d, ρ)
    | _ => none
  | .d x _ => some (x, ρ)

/-! ### values -/
def line : Nat := 16777216
def isObj (kvs : List (D × D)) : Bool := match kvs with
  | (.none, .int _) :: _ => true
  | _ => false
mutual
/-- a key in a tuple: numbers, truths, texts, None, tuples; how deep -/
def keyable : D → Bool
  | .none | .bool _ | .int _ | .str _ => true
  | .tuple ds => keyables ds
  | .list _ | .dict _ => false
termination_by structural d => d
def keyables : List D → Bool
  | [] => true
  | d :: ds => keyable d && keyables ds
termination_by structural d => d
end
/-- a dict's keys: tuples (true), numbers and texts (false) -/
def kKind : D → Option Bool
  | .tuple ds => if keyable (.tuple ds) && decide ((PyData.tuple ds).depth ≤ 8) then some true else none
  | .int _ | .str _ => some false
  | _ => none
def kGo (kvs : List (D × D)) (k : D) : Bool := match kKind k with
  | none => false
  | some b => match kvs with
    | [] => true
    | (k0, _) :: _ => kKind k0 == some b
def dGet (kvs : List (D × D)) (k : D) : Option D := (kvs.find? fun p => PyData.eqv p.1 k).map (·.2)
def dPut (kvs : List (D × D)) (k v : D) : List (D × D) :=
  if kvs.any (fun p => PyData.eqv p.1 k) then kvs.map fun p => if PyData.eqv p.1 k then (p.1, v) else p else kvs ++ [(k, v)]
def dAll (kvs : List (D × D)) : List (D × D) → Option (List (D × D))
  | [] => some kvs
  | (k, v) :: r => if kGo kvs k && decide (kvs.length < line) then dAll (dPut kvs k v) r else none
def pairs : List D → Option (List (D × D))
  | [] => some []
  | .tuple [k, v] :: r => (pairs r).map ((k, v) :: ·)
  | _ => none
def items? : D → Option (List D)
  | .tuple ds => some ds
  | .list ds => some ds
  | .dict kvs => if isObj kvs then none else some (kvs.map (·.1))
  | _ => none
def okMul (i j : Int) : Bool := decide (i.natAbs < 2 ^ 63) || decide (j.natAbs < 2 ^ 63) || (decide (i.natAbs < 2 ^ 400000) && decide (j.natAbs < 2 ^ 400000))
def bin2 (o : O2) (a b : D) : Option (D × Bool) := match o, a, b with
  | .add, .int i, .int j => some (.int (i + j), false)
  | .add, .tuple xs, .tuple ys => if xs.length + ys.length ≤ line then some (.tuple (xs ++ ys), false) else none
  | .add, .list xs, .list ys => if xs.length + ys.length ≤ line then some (.list (xs ++ ys), true) else none
  | .add, .str x, .str y => if x.length + y.length ≤ line then some (.str (x ++ y), false) else none
  | .sub, .int i, .int j => some (.int (i - j), false)
  | .mul, .int i, .int j => if okMul i j then some (.int (i * j), false) else none
  | .mul, .tuple xs, .int j => if xs ≠ [] ∧ 2 ≤ j ∧ j ≤ 1000 ∧ xs.length ≤ 1000 then some (.tuple (List.replicate j.toNat xs).flatten, false) else none
  | .mul, .list xs, .int j => if j ≤ 1000 ∧ -1000 ≤ j ∧ xs.length * j.toNat ≤ line then some (.list (List.replicate j.toNat xs).flatten, true) else none
  | .fdiv, .int i, .int j => if 0 < j ∧ j < 2 ^ 8000 then some (.int (i / j), false) else none
  | .mod, .int i, .int j => if 0 < j then some (.int (i % j), false) else none
  | .pow, .int i, .int j => if 0 ≤ j ∧ j ≤ 1000 ∧ i.natAbs < 2 ^ 63 then some (.int (i ^ j.toNat), false) else none
  | .shl, .int i, .int j => if 0 ≤ j ∧ j ≤ 1000 ∧ i.natAbs < 2 ^ 63 then some (.int (i * 2 ^ j.toNat), false) else none
  | .shr, .int i, .int j => if 0 ≤ j ∧ j ≤ 1000 then some (.int (i / 2 ^ j.toNat), false) else none
  | .band, .int i, .int j => some (.int (Builtin.bitAnd i j), false)
  | .bor, .int i, .int j => some (.int (Builtin.bitOr i j), false)
  | .bxor, .int i, .int j => some (.int (Builtin.bitXor i j), false)
  | _, _, _ => none
def eqD (a b : D) : Option Bool :=
  if a.plain && b.plain && decide (a.depth ≤ 60) && decide (b.depth ≤ 60) then some (PyData.eqv a b)
  else match a, b with
    | .dict kvs, .dict [] => if !isObj kvs && kvs.all (fun p => kKind p.1 == some false) then some kvs.isEmpty else none
    | _, _ => none
def ltD (a b : D) : Option Bool :=
  if PySem.W.alike a b && decide (a.depth ≤ 60) && a.plain && b.plain then (match a with | .none => none | _ => some (PySem.W.dataLt a b)) else none
def inD (a b : D) : Option Bool := match b with
  | .tuple ds | .list ds => if a.plain && PyData.plainAll ds && decide (a.depth ≤ 60) && decide (PyData.depthAll ds ≤ 60) then some (ds.any fun y => PyData.eqv y a) else none
  | .dict kvs => if isObj kvs then none else if kGo kvs a then some (dGet kvs a).isSome else none
  | .str y => match a with
    | .str x => (match x.cps.toList with | [c] => some (decide (c ∈ y.cps.toList)) | _ => none)
    | _ => none
  | _ => none
def isD (a b : D) : Option Bool := match a, b with
  | .none, .none => some true
  | .bool x, .bool y => some (x == y)
  | _, .none => some false
  | _, _ => none
def cmpD (c : Cm) (a b : D) : Option Bool := match c with
  | .eq => eqD a b
  | .ne => (eqD a b).map (!·)
  | .lt => ltD a b
  | .gt => ltD b a
  | .le => (ltD b a).map (!·)
  | .ge => (ltD a b).map (!·)
  | .isin => inD a b
  | .notin => (inD a b).map (!·)
  | .is_ => isD a b
  | .isnot => (isD a b).map (!·)
/-- a place counted from either end -/
def ixI (n : Nat) (i : Int) : Option Nat := if 0 ≤ i then (if i < n then some i.toNat else none) else if -(n : Int) ≤ i then some (i + n).toNat else none
def ixD (a i : D) : Option D := match a, i with
  | .tuple ds, .int j => (ixI ds.length j).bind fun n => ds[n]?
  | .list ds, .int j => (ixI ds.length j).bind fun n => ds[n]?
  | .dict kvs, k => if isObj kvs then none else if kGo kvs k then dGet kvs k else none
  | _, _ => none
/-- a slice's end: what is not told is d -/
def slI (n d : Nat) : D → Option Nat
  | .none => some d
  | .int v => some (if v < 0 then (if v + n < 0 then 0 else (v + n).toNat) else Nat.min v.toNat n)
  | _ => none
def slD (a lo hi : D) : Option (D × Bool) := match a with
  | .tuple ds => match slI ds.length 0 lo, slI ds.length ds.length hi with
    | some l, some h => some (.tuple ((ds.drop l).take (h - l)), false)
    | _, _ => none
  | .list ds => match slI ds.length 0 lo, slI ds.length ds.length hi with
    | some l, some h => some (.list ((ds.drop l).take (h - l)), true)
    | _, _ => none
  | _ => none
def revD : D → Option (D × Bool)
  | .list ds => some (.list ds.reverse, true)
  | _ => none
/-- the fields by their numbers: many, leaps | wide, whole, signs, base, rows, gains | cells, left, back, right, front | (rows), kinds -/
def cFlds : Int → List Nat
  | 0 => [0, 1]
  | 1 => [2, 3, 4, 5, 6, 7]
  | 2 => [8, 9, 10, 11, 12]
  | 3 => [6, 13]
  | _ => []
def objD (c : Int) (n : Nat) : D := .dict ((.none, .int c) :: List.replicate n (.bool false, .none))
def attL (f : Nat) : List Nat → List (D × D) → Option D
  | g :: gs, (.bool true, d) :: r => if f = g then some d else attL f gs r
  | g :: gs, (_, _) :: r => if f = g then none else attL f gs r
  | _, _ => none
def attD (a : D) (f : Nat) : Option D := match a with
  | .dict ((.none, .int c) :: r) => attL f (cFlds c) r
  | _ => none
def setL (f : Nat) (d : D) : List Nat → List (D × D) → Option (List (D × D))
  | g :: gs, p :: r => if f = g then some ((.bool true, d) :: r) else (setL f d gs r).map (p :: ·)
  | _, _ => none
def setD (a : D) (f : Nat) (d : D) : Option D := match a with
  | .dict ((.none, .int c) :: r) => (setL f d (cFlds c) r).map fun r' => .dict ((.none, .int c) :: r')
  | _ => none
def lenD : D → Option D
  | .tuple ds | .list ds => some (.int ds.length)
  | .dict kvs => if isObj kvs then none else some (.int kvs.length)
  | .str x => if x.length ≤ line then some (.int x.length) else none
  | _ => none
def intsOf : List D → Option (List Int)
  | [] => some []
  | .int i :: r => (intsOf r).map (i :: ·)
  | _ => none
def boolsOf : List D → Option (List Bool)
  | [] => some []
  | .bool i :: r => (boolsOf r).map (i :: ·)
  | _ => none
def alikes (ds : List D) : Bool := ds.all fun a => ds.all fun b => PySem.W.alike a b
def sortable (ds : List D) : Bool := alikes ds && ds.all (fun d => decide (d.depth ≤ 60)) && ds.all PyData.plain &&
  (ds.all (fun d => match d with | .tuple (_ :: _) => true | _ => false) || ds.all fun d => match d with | .none => false | .tuple _ => false | .dict _ => false | _ => true)
def sortL (ds : List D) : List D := ds.mergeSort (PySem.W.dataLe false id)
def srtD (ds : List D) : Option D := if sortable ds && decide (ds.length ≤ line) then some (.list (sortL ds)) else none
/-- each but once, where it first stands -/
def dedupA (acc : List D) : List D → List D
  | [] => acc
  | d :: r => dedupA (if acc.any (fun e => PyData.eqv e d) then acc else acc ++ [d]) r
def dedup (ds : List D) : List D := dedupA [] ds
def keyLen : D → Option D
  | .tuple ds => some (.tuple [.int ds.length, .tuple ds])
  | _ => none
def keySum : D → Option D
  | .tuple ds => (intsOf ds).map fun ns => .tuple [.int ns.sum, .tuple ds]
  | _ => none
def minL (d : D) (ds : List D) : D := ds.foldl (fun a y => if PySem.W.dataLt y a then y else a) d
def maxL (d : D) (ds : List D) : D := ds.foldl (fun a y => if PySem.W.dataLt a y then y else a) d
def isiD (d : D) : Ty → Bool
  | .int => match d with | .int _ | .bool _ => true | _ => false
  | .bool => match d with | .bool _ => true | _ => false
  | .tuple => match d with | .tuple _ => true | _ => false
  | .str => match d with | .str _ => true | _ => false
def rngL (lo hi c : Int) : Option (List D) :=
  if decide (lo.natAbs < 2 ^ 60) && decide (hi.natAbs < 2 ^ 60) then
    if c = 1 then some ((List.range (hi - lo).toNat).map fun (i : Nat) => PyData.int (lo + (i : Int)))
    else if c = -1 then some ((List.range (lo - hi).toNat).map fun (i : Nat) => PyData.int (lo - (i : Int)))
    else none
  else none
def rngD : List D → Option (List D)
  | [.int hi] => rngL 0 hi 1
  | [.int lo, .int hi] => rngL lo hi 1
  | [.int lo, .int hi, .int c] => rngL lo hi c
  | _ => none
def enumL (n : Nat) : List D → List D
  | [] => []
  | d :: r => .tuple [.int n, d] :: enumL (n + 1) r
def zipL : List D → List D → List D
  | a :: r, b :: s => .tuple [a, b] :: zipL r s
  | _, _ => []
/-- tuples and lists alone -/
def seq? : D → Option (List D)
  | .tuple ds => some ds
  | .list ds => some ds
  | _ => none

/-! ### running -/
/-- owned content of a slot, and how to put another in -/
def Ro.own (ρ : Ro) (i : Nat) : Option (D × (D → Ro)) := match ρ.at i with
  | .ow d => some (d, fun x => ρ.set i (.ow x))
  | .io d => some (d, fun x => ρ.set i (.io x))
  | _ => none
/-- what a def comes to: from its arguments, its answer (owned?), what its changed arguments are then -/
abbrev Gam := String → List D → Option (D × Bool × List D)
def setAll (ρ : Ro) : List Nat → List D → Option Ro
  | [], [] => some ρ
  | i :: is, d :: ds => if i < ρ.length then setAll (ρ.set i (.va d)) is ds else none
  | _, _ => none
def bindT (ρ : Ro) : Tg → D → Option Ro
  | .nm i, d => if i < ρ.length then some (ρ.set i (.va d)) else none
  | .tp is, .tuple ds => setAll ρ is ds
  | .tp _, _ => none
def Tg.slots : Tg → List Nat
  | .nm i => [i]
  | .tp is => is
def Sl.free : Sl → Bool
  | .ow _ | .io _ => false
  | _ => true
def wipeR (ρ : Ro) (is : List Nat) : Ro := is.foldl (fun r i => r.set i .un) ρ
def backR (ρ0 : Ro) (ρ : Ro) (is : List Nat) : Ro := is.foldl (fun r i => r.set i (ρ0.at i)) ρ
def cmpL (f : D → Ro → Option (Option D × Ro)) : List D → Ro → Option (List D × Ro)
  | [], ρ => some ([], ρ)
  | d :: ds, ρ => do
    let (o, ρ1) ← f d ρ
    let (r, ρ2) ← cmpL f ds ρ1
    match o with
    | some x => some (x :: r, ρ2)
    | none => some (r, ρ2)
/-- what the arguments are behind all of them -/
def arg1 (ρ : Ro) (h : Hd) : Md → Option D
  | .io => match h with
    | .s i => (match ρ.at i with | .ow d | .io d => some d | _ => none)
    | .d _ _ => none
  | _ => h.get ρ
def agv (ρ : Ro) : List (Hd × Md) → Option (List D)
  | [] => some []
  | p :: r => match arg1 ρ p.1 p.2, agv ρ r with
    | some d, some ds => some (d :: ds)
    | _, _ => none
def ioS : List (Hd × Md) → List Nat
  | [] => []
  | (.s i, .io) :: r => i :: ioS r
  | _ :: r => ioS r
def boS : List (Hd × Md) → List Nat
  | [] => []
  | (.s i, .b) :: r => i :: boS r
  | _ :: r => boS r
def putIo (ρ : Ro) : List Nat → List D → Option Ro
  | [], [] => some ρ
  | i :: is, d :: ds => match ρ.at i with
    | .ow _ => putIo (ρ.set i (.ow d)) is ds
    | .io _ => putIo (ρ.set i (.io d)) is ds
    | _ => none
  | _, _ => none
def disj (a b : List Nat) : Bool := a.all fun i => !b.contains i
def nodupN : List Nat → Bool
  | [] => true
  | i :: r => !r.contains i && nodupN r
def callG (g : List D → Option (D × Bool × List D)) (hs : List (Hd × Md)) (ρ : Ro) : Option (Hd × Ro) :=
  if nodupN (ioS hs) && disj (ioS hs) (boS hs) then do
    let ds ← agv ρ hs
    let (d, own, ios) ← g ds
    let ρ' ← putIo ρ (ioS hs) ios
    some (.d d own, ρ')
  else none
/-- one operand, read -/
def un1 (f : D → Option (D × Bool)) (e : Option (Hd × Ro)) : Option (Hd × Ro) := match e with
  | none => none
  | some (h, ρ) => match h.get ρ with
    | none => none
    | some x => match f x with
      | none => none
      | some (d, own) => some (.d d own, ρ)
/-- two operands, read when both have come -/
def bi1 (f : D → D → Option (D × Bool)) (e : Option (Hd × Ro)) (g : Ro → Option (Hd × Ro)) : Option (Hd × Ro) := match e with
  | none => none
  | some (h1, ρ1) => match g ρ1 with
    | none => none
    | some (h2, ρ2) => match h1.get ρ2, h2.get ρ2 with
      | some x, some y => match f x y with
        | none => none
        | some (d, own) => some (.d d own, ρ2)
      | _, _ => none
def isNoneK : Ex → Bool
  | .k .none => true
  | _ => false
def okPart (b : Bool) (y : D) : Bool := match y with
  | .none => b
  | .int _ => !b
  | _ => false
/-- a slice: its ends are read at once -/
def sl1 (b1 b2 : Bool) (e : Option (Hd × Ro)) (g k : Ro → Option (Hd × Ro)) : Option (Hd × Ro) := match e with
  | none => none
  | some (h1, ρ1) => match g ρ1 with
    | none => none
    | some (h2, ρ2) => match h2.get ρ2 with
      | none => none
      | some y => if okPart b1 y then match k ρ2 with
        | none => none
        | some (h3, ρ3) => match h3.get ρ3, h1.get ρ3 with
          | some z, some x => if okPart b2 z then match slD x y z with
            | none => none
            | some (d, own) => some (.d d own, ρ3) else none
          | _, _ => none else none
/-- a truth that has come -/
def boolH (e : Option (Hd × Ro)) : Option (Bool × Ro) := match e with
  | none => none
  | some (h, ρ) => match h.get ρ with
    | some (.bool b) => some (b, ρ)
    | _ => none
def val1 (o : Option D) : Option (D × Bool) := o.map fun d => (d, false)
def bool1 (o : Option Bool) : Option (D × Bool) := o.map fun b => (.bool b, false)
def negD : D → Option D
  | .int i => some (.int (-i))
  | _ => none
def notD : D → Option Bool
  | .bool b => some !b
  | _ => none
def isiO (d : D) (t : Ty) : Option (D × Bool) := match d with
  | .dict _ => none
  | d => bool1 (some (isiD d t))
def sumD (x : D) : Option D := match x with
  | .list ds => (intsOf ds).map fun ns => .int ns.sum
  | _ => none
def anyD (x : D) : Option Bool := match seq? x with
  | some ds => (boolsOf ds).map fun ns => ns.any id
  | none => none
def allD (x : D) : Option Bool := match seq? x with
  | some ds => (boolsOf ds).map fun ns => ns.all id
  | none => none
def minD (x : D) : Option D := match seq? x with
  | some (d :: ds) => if sortable (d :: ds) then some (minL d ds) else none
  | _ => none
def maxD (x : D) : Option D := match seq? x with
  | some (d :: ds) => if sortable (d :: ds) then some (maxL d ds) else none
  | _ => none
def min2D : D → D → Option D
  | .int i, .int j => some (.int (if j < i then j else i))
  | _, _ => none
def max2D : D → D → Option D
  | .int i, .int j => some (.int (if i < j then j else i))
  | _, _ => none
def absD : D → Option D
  | .int i => some (.int (if i < 0 then -i else i))
  | _ => none
def intD : D → Option D
  | .int i => some (.int i)
  | .bool b => some (.int (if b then 1 else 0))
  | _ => none
def strD : D → Option D
  | .int i => if i.natAbs < 2 ^ 1000 then some (.str (toString i)) else none
  | _ => none
def reqrD (x y : D) : Option Bool :=
  if x.plain && y.plain && decide (x.depth ≤ 60) && decide (y.depth ≤ 60) && decide (x.weight < 1000000) && decide (y.weight < 1000000) && PyData.eqv x y && PySem.W.alike x y then some true else none
def idxD (s y : D) : Option D := match seq? s with
  | some ds => if y.plain && PyData.plainAll ds && decide (y.depth ≤ 60) && decide (PyData.depthAll ds ≤ 60) then (ds.findIdx? fun e => PyData.eqv e y).map fun (j : Nat) => PyData.int j else none
  | none => none
section
variable (Γ : Gam)
mutual
def ev : Ex → Ro → Option (Hd × Ro)
  | .v i, ρ => (match ρ.at i with | .un => none | _ => some (.s i, ρ))
  | .k d, ρ => some (.d d false, ρ)
  | .bin o a b, ρ => bi1 (bin2 o) (ev a ρ) (ev b)
  | .neg a, ρ => un1 (fun x => val1 (negD x)) (ev a ρ)
  | .cmp c a b, ρ => bi1 (fun x y => bool1 (cmpD c x y)) (ev a ρ) (ev b)
  | .chn c1 c2 a b c, ρ => do
    let (h1, ρ1) ← ev a ρ
    let (h2, ρ2) ← ev b ρ1
    let x ← h1.get ρ2
    let y ← h2.get ρ2
    let r ← cmpD c1 x y
    if r then do
      let (h3, ρ3) ← ev c ρ2
      let z ← h3.get ρ3
      let y' ← h2.get ρ3
      let r' ← cmpD c2 y' z
      some (.d (.bool r') false, ρ3)
    else some (.d (.bool false) false, ρ2)
  | .and_ a b, ρ => do
    let (h, ρ1) ← ev a ρ
    match h.get ρ1 with
    | some (.bool true) => do
      let (h2, ρ2) ← ev b ρ1
      match h2.get ρ2 with
      | some (.bool r) => some (.d (.bool r) false, ρ2)
      | _ => none
    | some (.bool false) => some (.d (.bool false) false, ρ1)
    | _ => none
  | .or_ a b, ρ => do
    let (h, ρ1) ← ev a ρ
    match h.get ρ1 with
    | some (.bool false) => do
      let (h2, ρ2) ← ev b ρ1
      match h2.get ρ2 with
      | some (.bool r) => some (.d (.bool r) false, ρ2)
      | _ => none
    | some (.bool true) => some (.d (.bool true) false, ρ1)
    | _ => none
  | .not_ a, ρ => un1 (fun x => bool1 (notD x)) (ev a ρ)
  | .ite c a b, ρ => do
    let (h, ρ1) ← ev c ρ
    match h.get ρ1 with
    | some (.bool true) => do
      let (h2, ρ2) ← ev a ρ1
      let (d, own, ρ3) ← esc ρ2 h2
      some (.d d own, ρ3)
    | some (.bool false) => do
      let (h2, ρ2) ← ev b ρ1
      let (d, own, ρ3) ← esc ρ2 h2
      some (.d d own, ρ3)
    | _ => none
  | .tup es, ρ => do
    let (ds, ρ1) ← evs es ρ
    some (.d (.tuple ds) false, ρ1)
  | .lst es, ρ => do
    let (ds, ρ1) ← evs es ρ
    some (.d (.list ds) true, ρ1)
  | .dct0, ρ => some (.d (.dict []) true, ρ)
  | .dct1 k v, ρ => do
    let (h1, ρ1) ← ev k ρ
    let (x, _, ρ2) ← esc ρ1 h1
    let (h2, ρ3) ← ev v ρ2
    let (y, _, ρ4) ← esc ρ3 h2
    if kGo [] x then some (.d (.dict [(x, y)]) true, ρ4) else none
  | .ix a i, ρ => bi1 (fun x y => val1 (ixD x y)) (ev a ρ) (ev i)
  | .slc a lo hi, ρ => sl1 (isNoneK lo) (isNoneK hi) (ev a ρ) (ev lo) (ev hi)
  | .rev a, ρ => un1 revD (ev a ρ)
  | .att a f, ρ => un1 (fun x => val1 (attD x f)) (ev a ρ)
  | .call f as, ρ => do
    let (hs, ρ1) ← evAs as ρ
    callG (Γ f) hs ρ1
  | .new c f as, ρ => do
    let (hs, ρ1) ← evAs as ρ
    if (ioS hs).isEmpty then do
      let ds ← agv ρ1 hs
      match Γ f (objD c (cFlds c).length :: ds) with
      | some (.none, _, [d]) => some (.d d true, ρ1)
      | _ => none
    else none
  | .len a, ρ => un1 (fun x => val1 (lenD x)) (ev a ρ)
  | .tupI it, ρ => do
    let (ds, ρ1) ← evI it ρ
    if ds.length ≤ line then some (.d (.tuple ds) false, ρ1) else none
  | .lstI it, ρ => do
    let (ds, ρ1) ← evI it ρ
    if ds.length ≤ line then some (.d (.list ds) true, ρ1) else none
  | .dctI it, ρ => do
    let (ds, ρ1) ← evI it ρ
    let ps ← pairs ds
    let kvs ← dAll [] ps
    some (.d (.dict kvs) true, ρ1)
  | .srt it, ρ => do
    let (ds, ρ1) ← evI it ρ
    let d ← srtD ds
    some (.d d true, ρ1)
  | .srtS it, ρ => do
    let (ds, ρ1) ← evI it ρ
    if ds.all keyable then do
      let d ← srtD (dedup ds)
      some (.d d true, ρ1)
    else none
  | .srtK m it, ρ => do
    let (ds, ρ1) ← evI it ρ
    let ks ← ds.mapM (if m = 0 then keyLen else keySum)
    let d ← srtD ks
    match d with
    | .list ks' => some (.d (.list (ks'.map fun k => match k with | .tuple [_, x] => x | _ => .none)) true, ρ1)
    | _ => none
  | .lenS it, ρ => do
    let (ds, ρ1) ← evI it ρ
    if ds.all keyable then some (.d (.int (dedup ds).length) false, ρ1) else none
  | .sum a, ρ => un1 (fun x => val1 (sumD x)) (ev a ρ)
  | .any a, ρ => un1 (fun x => bool1 (anyD x)) (ev a ρ)
  | .all a, ρ => un1 (fun x => bool1 (allD x)) (ev a ρ)
  | .min a, ρ => un1 (fun x => val1 (minD x)) (ev a ρ)
  | .max a, ρ => un1 (fun x => val1 (maxD x)) (ev a ρ)
  | .min2 a b, ρ => bi1 (fun x y => val1 (min2D x y)) (ev a ρ) (ev b)
  | .max2 a b, ρ => bi1 (fun x y => val1 (max2D x y)) (ev a ρ) (ev b)
  | .abs a, ρ => un1 (fun x => val1 (absD x)) (ev a ρ)
  | .int a, ρ => un1 (fun x => val1 (intD x)) (ev a ρ)
  | .str a, ρ => un1 (fun x => val1 (strD x)) (ev a ρ)
  | .reqr a b, ρ => bi1 (fun x y => bool1 (reqrD x y)) (ev a ρ) (ev b)
  | .isi a t, ρ => un1 (fun x => isiO x t) (ev a ρ)
  | .comp elt tg it c, ρ => do
    let (ds, ρ1) ← evI it ρ
    if tg.slots.all fun i => (ρ1.at i).free && decide (i < ρ1.length) then do
      let (xs, ρ2) ← cmpL (fun d r => do
        let r1 ← bindT (wipeR r tg.slots) tg d
        let (b, r2) ← boolH (ev c r1)
        if b then do
          let (h2, r3) ← ev elt r2
          let (x, _, r4) ← esc r3 h2
          some (some x, r4)
        else some (none, r2)) ds ρ1
      if xs.length ≤ line then some (.d (.list xs) true, backR ρ1 ρ2 tg.slots) else none
    else none
  | .pop i, ρ => match ρ.at i with
    | .ow (.list ds) => (match ds.getLast? with | some d => some (.d d false, ρ.set i (.ow (.list ds.dropLast))) | none => none)
    | .io (.list ds) => (match ds.getLast? with | some d => some (.d d false, ρ.set i (.io (.list ds.dropLast))) | none => none)
    | _ => none
  | .get a k d, ρ => do
    let (h1, ρ1) ← ev a ρ
    let (h2, ρ2) ← ev k ρ1
    let (h3, ρ3) ← ev d ρ2
    let (z, _, ρ4) ← esc ρ3 h3
    let x ← h1.get ρ4
    let y ← h2.get ρ4
    match x with
    | .dict kvs => if isObj kvs then none else if kGo kvs y then some (.d ((dGet kvs y).getD z) false, ρ4) else none
    | _ => none
  | .idx a x, ρ => bi1 (fun x y => val1 (idxD x y)) (ev a ρ) (ev x)
termination_by structural e => e
def evs : List Ex → Ro → Option (List D × Ro)
  | [], ρ => some ([], ρ)
  | e :: es, ρ => do
    let (h, ρ1) ← ev e ρ
    let (d, _, ρ2) ← esc ρ1 h
    let (ds, ρ3) ← evs es ρ2
    some (d :: ds, ρ3)
termination_by structural es => es
def evAs : List Ag → Ro → Option (List (Hd × Md) × Ro)
  | [], ρ => some ([], ρ)
  | g :: gs, ρ => do
    let (p, ρ1) ← evA g ρ
    let (r, ρ2) ← evAs gs ρ1
    some (p :: r, ρ2)
termination_by structural gs => gs
def evA : Ag → Ro → Option ((Hd × Md) × Ro)
  | .a e, ρ => do
    let (h, ρ1) ← ev e ρ
    let (d, _, ρ2) ← esc ρ1 h
    some ((.d d false, .a), ρ2)
  | .b e, ρ => do
    let (h, ρ1) ← ev e ρ
    some ((h, .b), ρ1)
  | .io i, ρ => if (Ro.own ρ i).isSome then some ((.s i, .io), ρ) else none
termination_by structural g => g
def evI : It → Ro → Option (List D × Ro)
  | .seq e, ρ => do
    let (h, ρ1) ← ev e ρ
    let (x, ρ2) ← wlk ρ1 h
    let ds ← items? x
    some (ds, ρ2)
  | .lst e, ρ => do
    let (h, ρ1) ← ev e ρ
    let (x, ρ2) ← wlk ρ1 h
    match x with
    | .list ds => some (ds, ρ2)
    | _ => none
  | .sq e, ρ => do
    let (h, ρ1) ← ev e ρ
    let (x, ρ2) ← wlk ρ1 h
    let ds ← seq? x
    some (ds, ρ2)
  | .rng es, ρ => do
    let (ds, ρ1) ← evs es ρ
    let r ← rngD ds
    some (r, ρ1)
  | .enum e, ρ => do
    let (h, ρ1) ← ev e ρ
    let (x, ρ2) ← wlk ρ1 h
    let ds ← seq? x
    some (enumL 0 ds, ρ2)
  | .zip a b, ρ => do
    let (h1, ρ1) ← ev a ρ
    let (x, ρ2) ← wlk ρ1 h1
    let (h2, ρ3) ← ev b ρ2
    let (y, ρ4) ← wlk ρ3 h2
    let ds ← seq? x
    let es ← seq? y
    some (zipL ds es, ρ4)
  | .items e, ρ => do
    let (h, ρ1) ← ev e ρ
    let (x, ρ2) ← wlk ρ1 h
    match x with
    | .dict kvs => if isObj kvs then none else some (kvs.map fun p => .tuple [p.1, p.2], ρ2)
    | _ => none
  | .vals e, ρ => do
    let (h, ρ1) ← ev e ρ
    let (x, ρ2) ← wlk ρ1 h
    match x with
    | .dict kvs => if isObj kvs then none else some (kvs.map (·.2), ρ2)
    | _ => none
  | .ent e, ρ => do
    let (h, ρ1) ← ev e ρ
    let (x, ρ2) ← wlk ρ1 h
    match x with
    | .dict kvs => if isObj kvs then none else some (kvs.map fun p => .tuple [p.1, p.2], ρ2)
    | .tuple ds => some (ds, ρ2)
    | .list ds => some (ds, ρ2)
    | _ => none
termination_by structural it => it
end
end
end LT
end
section
set_option linter.all false
set_option maxRecDepth 100000
/-! Statements, defs, programs of the small language. -/
namespace LT
open PySem
def ownS (d : D) (own : Bool) : Sl := if own then .ow d else .va d
def isL : D → Bool
  | .list _ => true
  | _ => false
def isDc : D → Bool
  | .dict kvs => !isObj kvs
  | _ => false
def putD (c k v : D) : Option D := match c, k with
  | .list ds, .int j => (ixI ds.length j).map fun n => .list (ds.set n v)
  | .dict kvs, k => if !isObj kvs && kGo kvs k && decide (kvs.length < line) then some (.dict (dPut kvs k v)) else none
  | _, _ => none
def forL (f : D → Ro → Option Oc) : List D → Ro → Option Oc
  | [], ρ => some (.nx ρ)
  | d :: ds, ρ => match f d ρ with
    | some (.nx ρ1) => forL f ds ρ1
    | some (.ct ρ1) => forL f ds ρ1
    | some (.bk ρ1) => some (.nx ρ1)
    | some (.rt x o ρ1) => some (.rt x o ρ1)
    | none => none
def whL (c : Ro → Option (Bool × Ro)) (b : Ro → Option Oc) : Nat → Ro → Option Oc
  | 0, _ => none
  | n + 1, ρ => match c ρ with
    | some (true, ρ1) => (match b ρ1 with
      | some (.nx ρ2) => whL c b n ρ2
      | some (.ct ρ2) => whL c b n ρ2
      | some (.bk ρ2) => some (.nx ρ2)
      | some (.rt x o ρ2) => some (.rt x o ρ2)
      | none => none)
    | some (false, ρ1) => some (.nx ρ1)
    | none => none
def turns : Nat := 1000000000
section
variable (Γ : Gam)
/-- a test -/
def evB (e : Ex) (ρ : Ro) : Option (Bool × Ro) := boolH (ev Γ e ρ)
/-- one after another, with what is owned -/
def evO : List Ex → Ro → Option (List (D × Bool) × Ro)
  | [], ρ => some ([], ρ)
  | e :: es, ρ => do
    let (h, ρ1) ← ev Γ e ρ
    let (d, own, ρ2) ← esc ρ1 h
    let (r, ρ3) ← evO es ρ2
    some ((d, own) :: r, ρ3)
def setO (ρ : Ro) : List Nat → List (D × Bool) → Option Ro
  | [], [] => some ρ
  | i :: is, (d, o) :: ds => setO (ρ.set i (ownS d o)) is ds
  | _, _ => none
mutual
def sx : St → Ro → Option Oc
  | .asg i e, ρ => do
    let (h, ρ1) ← ev Γ e ρ
    let (d, own, ρ2) ← esc ρ1 h
    some (.nx (ρ2.set i (ownS d own)))
  | .asgT is e, ρ => do
    let (h, ρ1) ← ev Γ e ρ
    let (d, _, ρ2) ← esc ρ1 h
    match d with
    | .tuple ds => do
      let ρ3 ← setAll ρ2 is ds
      some (.nx ρ3)
    | _ => none
  | .par is es, ρ => do
    let (ds, ρ1) ← evO Γ es ρ
    let ρ2 ← setO ρ1 is ds
    some (.nx ρ2)
  | .setI i k e, ρ => do
    let (h, ρ1) ← ev Γ e ρ
    let (d, _, ρ2) ← esc ρ1 h
    let _ ← ρ2.own i
    let (h2, ρ3) ← ev Γ k ρ2
    let (x, _, ρ4) ← esc ρ3 h2
    let (c, put) ← ρ4.own i
    let c' ← putD c x d
    some (.nx (put c'))
  | .setA i f e, ρ => do
    let (h, ρ1) ← ev Γ e ρ
    let (d, _, ρ2) ← esc ρ1 h
    let (c, put) ← ρ2.own i
    let c' ← setD c f d
    some (.nx (put c'))
  | .setAI _ _ _ _, _ => none
  | .app i e, ρ => do
    let (c0, _) ← ρ.own i
    if isL c0 then
    let (h, ρ1) ← ev Γ e ρ
    let (d, _, ρ2) ← esc ρ1 h
    let (c, put) ← ρ2.own i
    match c with
    | .list ds => if ds.length < line then some (.nx (put (.list (ds ++ [d])))) else none
    | _ => none
    else none
  | .ext i e, ρ => do
    let (c0, _) ← ρ.own i
    if isL c0 then
    let (h, ρ1) ← ev Γ e ρ
    match h with
    | .d (.list es) true => do
      let (c, put) ← ρ1.own i
      match c with
      | .list ds => if ds.length + es.length ≤ line then some (.nx (put (.list (ds ++ es)))) else none
      | _ => none
    | _ => none
    else none
  | .upd i e, ρ => do
    let (c0, _) ← ρ.own i
    if isDc c0 then
    let (h, ρ1) ← ev Γ e ρ
    let x ← h.get ρ1
    let (c, put) ← ρ1.own i
    match c, x with
    | .dict kvs, .dict more => if isObj kvs || isObj more then none else do
      let kvs' ← dAll kvs more
      some (.nx (put (.dict kvs')))
    | _, _ => none
    else none
  | .ex e, ρ => do
    let (_, ρ1) ← ev Γ e ρ
    some (.nx ρ1)
  | .ifs c t e, ρ => do
    let (b, ρ1) ← evB Γ c ρ
    if b then sxs t ρ1 else sxs e ρ1
  | .for_ tg it body, ρ => do
    let (ds, ρ1) ← evI Γ it ρ
    forL (fun d r => do
      let r1 ← bindT r tg d
      sxs body r1) ds ρ1
  | .whl c body, ρ => whL (evB Γ c) (fun r => sxs body r) turns ρ
  | .ret e, ρ => do
    let (h, ρ1) ← ev Γ e ρ
    match h with
    | .d x o => some (.rt x o ρ1)
    | .s i => match ρ1.at i with
      | .ow d => some (.rt d true (ρ1.set i .un))
      | .va d => some (.rt d false ρ1)
      | .bo d => if flat d then some (.rt d false ρ1) else none
      | _ => none
  | .ret0, ρ => some (.rt .none false ρ)
  | .brk, ρ => some (.bk ρ)
  | .cnt, ρ => some (.ct ρ)
  | .pas, ρ => some (.nx ρ)
  | .rai, _ => none
termination_by structural s => s
def sxs : List St → Ro → Option Oc
  | [], ρ => some (.nx ρ)
  | s :: ss, ρ => match sx s ρ with
    | some (.nx ρ1) => sxs ss ρ1
    | r => r
termination_by structural ss => ss
end
end
/-- a def: how its parameters are handed on, how many slots, its body -/
structure Df where
  md : List Md
  n : Nat
  body : List St
def argSl : Md → D → Sl
  | .a, d => .va d
  | .b, d => .bo d
  | .io, d => .io d
def argS : List Md → List D → Option Ro
  | [], [] => some []
  | m :: ms, d :: ds => (argS ms ds).map fun r => argSl m d :: r
  | _, _ => none
def iosOf : Nat → List Md → Ro → Option (List D)
  | _, [], _ => some []
  | i, .io :: ms, ρ => match ρ.at i with
    | .io d => (iosOf (i + 1) ms ρ).map (d :: ·)
    | _ => none
  | i, _ :: ms, ρ => iosOf (i + 1) ms ρ
def runDf (Γ : Gam) (f : Df) (args : List D) : Option (D × Bool × List D) := do
  let r ← argS f.md args
  let o ← sxs Γ f.body (r ++ List.replicate (f.n - f.md.length) .un)
  match o with
  | .nx ρ => do
    let ios ← iosOf 0 f.md ρ
    some (.none, false, ios)
  | .rt d own ρ => do
    let ios ← iosOf 0 f.md ρ
    some (d, own, ios)
  | _ => none
/-- a program: the defs, each told after those that it calls -/
def gam : List (String × Df) → Gam
  | [], _, _ => none
  | (x, f) :: r, y, args => if x = y then runDf (gam r) f args else gam r y args
end LT
end
section
set_option linter.all false
set_option maxRecDepth 100000
/-! Data in slots: what a value of the abstract heap stands for. -/
namespace LT
open PySem PySem.Spec PyProof.Rows L2

/-- a class's name, its fields, by its number -/
def cName : Int → Str
  | 0 => "Board"
  | 1 => "Table"
  | 2 => "Smith"
  | 3 => "Levels"
  | _ => "?"
def fName : Nat → Str
  | 0 => "many" | 1 => "leaps" | 2 => "wide" | 3 => "whole" | 4 => "signs" | 5 => "base" | 6 => "rows" | 7 => "gains"
  | 8 => "cells" | 9 => "left" | 10 => "back" | 11 => "right" | 12 => "front" | 13 => "kinds"
  | _ => "?"
/-- what a dict holds: keys that are tuples, keys that are numbers or texts -/
inductive DRep where
  | t (xs : List (NestedKey × Addr × Value))
  | m (ys : List (Key × Value))
/-- the surroundings that do not change through a law -/
structure Su where
  P : Program
  w : World
  K : PySem.W.Frag
  mg : Str → Option Value

mutual
def toNK : D → Option NestedKey
  | .none => some .none
  | .bool b => some (.num (if b = true then 1 else 0))
  | .int i => some (.num i)
  | .str x => some (.text x)
  | .tuple ds => (toNKs ds).map .tup
  | .list _ => none
  | .dict _ => none
termination_by structural d => d
def toNKs : List D → Option (List NestedKey)
  | [] => some []
  | d :: ds => match toNK d, toNKs ds with
    | some k, some ks => some (k :: ks)
    | _, _ => none
termination_by structural d => d
end
def toKey : D → Option Key
  | .int i => some (.inl i)
  | .str x => some (.inr x)
  | _ => none

def phiT (U : Su) (a : Addr) (xs : List (NestedKey × Addr × Value)) (h : Heap) : Prop :=
  ∃ o es ep, h.get? a = some o ∧ o.ExactDict ∧ o.data = .dict es ep ∧ es.toList = xs.map (entryOfKey (nestedKind U.P U.w))
def phiM (U : Su) (a : Addr) (ys : List (Key × Value)) (h : Heap) : Prop := h.DictOf (mixKind U.P U.w) a ys
/-- the very object at a -/
def exO (a : Addr) (o : Obj) (h : Heap) : Prop := h.get? a = some o
def DT (U : Su) (H : Hp) (a : Addr) (xs : List (NestedKey × Addr × Value)) : Prop :=
  ∃ o es ep, H a = some (.ext (exO a o)) ∧ o.ExactDict ∧ o.data = .dict es ep ∧ es.toList = xs.map (entryOfKey (nestedKind U.P U.w))
def DM (U : Su) (H : Hp) (a : Addr) (ys : List (Key × Value)) : Prop :=
  ∃ o es ep, H a = some (.ext (exO a o)) ∧ o.ExactDict ∧ o.data = .dict es ep ∧ KeysOf (mixKind U.P U.w) es ∧ Pairs (mixKind U.P U.w) es.toList ys ∧ (ys.map (·.1)).Nodup
/-- the dict at a -/
def DictH (U : Su) (H : Hp) (a : Addr) : DRep → Prop
  | .t xs => xs.length ≤ sizeLine ∧ (a == sysModules) = false ∧ (xs.map (·.1)).Nodup ∧ DT U H a xs
  | .m ys => ys.length ≤ sizeLine ∧ (a == sysModules) = false ∧ DM U H a ys

/-- an object of the written part that is a list, a tuple -/
def KSeq (K : PySem.W.Frag) (T : String) (a : Addr) (xs : List V) : Prop :=
  ∃ (o : Obj) (its : Array Value) (n : Nat), K.lookup a = some o ∧ o.cls = .type T ∧ o.dict = none ∧ o.data = .seq its n ∧ its.size ≤ sizeLine ∧ Vals xs its.toList

/-- a datum that tells an instance: its class's number -/
def objTag : List (D × D) → Option Int
  | (.none, .int c) :: _ => some c
  | _ => none
mutual
/-- v stands for d in H; no object at O is met -/
def Rp (U : Su) (H : Hp) (O : Addr → Prop) : D → V → Prop
  | .none, v => v = .non
  | .bool b, v => v = .bl b
  | .int i, v => v = .int i
  | .str x, v => v = .str x
  | .tuple ds, v => ∃ a xs, v = .ref a ∧ ((Rd H a (.tup xs) ∧ ¬ O a) ∨ KSeq U.K "tuple" a xs) ∧ RpL U H O ds xs
  | .list ds, v => ∃ a xs, v = .ref a ∧ ((Rd H a (.lst xs) ∧ ¬ O a) ∨ KSeq U.K "list" a xs) ∧ RpL U H O ds xs
  | .dict kvs, v => ∃ a, v = .ref a ∧ ¬ O a ∧
      ((objTag kvs = none ∧ ((∃ xs, DictH U H a (.t xs) ∧ RpT U H O kvs xs) ∨ ∃ ys, DictH U H a (.m ys) ∧ RpM U H O kvs ys)) ∨
       (∃ c C dx fv, objTag kvs = some c ∧ H a = some (.ins C dx fv) ∧ fv.length ≤ 100 ∧ U.mg (cName c) = some (.ref C) ∧ RpF U H O kvs (none :: (cFlds c).map fun g => some (fName g)) fv))
termination_by structural d => d
def RpL (U : Su) (H : Hp) (O : Addr → Prop) : List D → List V → Prop
  | [], xs => xs = []
  | d :: ds, xs => ∃ x r, xs = x :: r ∧ Rp U H O d x ∧ RpL U H O ds r
termination_by structural d => d
/-- an instance's fields in their order, behind the class's number; the key is True where the field is set -/
def RpF (U : Su) (H : Hp) (O : Addr → Prop) : List (D × D) → List (Option Str) → List (Str × V) → Prop
  | [], fn, _ => fn = []
  | (k, d) :: r, fn, fv => ∃ f fr, fn = f :: fr ∧ (∀ g, f = some g → (k = .bool true ∧ ∃ x, fv.lookup g = some x ∧ Rp U H O d x) ∨ (k = .bool false ∧ fv.lookup g = none)) ∧ RpF U H O r fr fv
termination_by structural d => d
def RpT (U : Su) (H : Hp) (O : Addr → Prop) : List (D × D) → List (NestedKey × Addr × Value) → Prop
  | [], xs => xs = []
  | (k, d) :: r, xs => ∃ nk b u v xr, xs = (nk, b, u) :: xr ∧ toNK k = some nk ∧ nk.depth ≤ 8 ∧ Rp U H O k (.ref b) ∧ RelV v u ∧ Rp U H O d v ∧ RpT U H O r xr
termination_by structural d => d
def RpM (U : Su) (H : Hp) (O : Addr → Prop) : List (D × D) → List (Key × Value) → Prop
  | [], ys => ys = []
  | (k, d) :: r, ys => ∃ ky u v yr, ys = (ky, u) :: yr ∧ toKey k = some ky ∧ RelV v u ∧ Rp U H O d v ∧ RpM U H O r yr
termination_by structural d => d
end
/-- the dict, or the instance, at a -/
def CtD (U : Su) (H : Hp) (O : Addr → Prop) (kvs : List (D × D)) (a : Addr) : Prop :=
  (objTag kvs = none ∧ ((∃ xs, DictH U H a (.t xs) ∧ RpT U H O kvs xs) ∨ ∃ ys, DictH U H a (.m ys) ∧ RpM U H O kvs ys)) ∨
  (∃ c C dx fv, objTag kvs = some c ∧ H a = some (.ins C dx fv) ∧ fv.length ≤ 100 ∧ U.mg (cName c) = some (.ref C) ∧ RpF U H O kvs (none :: (cFlds c).map fun g => some (fName g)) fv)
/-- at a stands what d tells; what lies within meets no object at O -/
def Ct (U : Su) (H : Hp) (O : Addr → Prop) (a : Addr) : D → Prop
  | .list ds => ∃ xs, Rd H a (.lst xs) ∧ RpL U H O ds xs
  | .dict kvs => CtD U H O kvs a
  | _ => False
end LT
end
section
set_option linter.all false
set_option maxRecDepth 100000
namespace LT
open PySem PySem.Spec PyProof.Rows L2
variable {U : Su} {H H' : Hp} {O O' : Addr → Prop}

/-- what stands outside O stands as it was, and outside O' -/
def Mv (H : Hp) (O : Addr → Prop) (H' : Hp) (O' : Addr → Prop) : Prop := ∀ b u, H b = some u → ¬ O b → H' b = some u ∧ ¬ O' b
theorem Mv.mono (h : ∀ b, O' b → O b) : Mv H O H O' := fun b u e n => ⟨e, fun q => n (h b q)⟩
theorem Mv.frame (h : ∀ b u, H b = some u → ¬ O b → H' b = some u) : Mv H O H' O := fun b u e n => ⟨h b u e n, n⟩
theorem Mv.trans {H1 H2 H3 : Hp} {O1 O2 O3 : Addr → Prop} (a : Mv H1 O1 H2 O2) (b : Mv H2 O2 H3 O3) : Mv H1 O1 H3 O3 := fun c u e n => let ⟨e2, n2⟩ := a c u e n; b c u e2 n2
theorem Mv.rd (m : Mv H O H' O') {a : Addr} {u : HO} (h : Rd H a u) (n : ¬ O a) : Rd H' a u ∧ ¬ O' a := by
  rcases h with h | ⟨o, h⟩
  · obtain ⟨e, n'⟩ := m a _ h n
    exact ⟨.inl e, n'⟩
  · obtain ⟨e, n'⟩ := m a _ h n
    exact ⟨.inr ⟨o, e⟩, n'⟩
theorem DictH.moveAt {a : Addr} {r : DRep} (e : ∀ u, H a = some u → H' a = some u) (h : DictH U H a r) : DictH U H' a r := by
  cases r with
  | t xs => obtain ⟨h1, h2, h3, o, es, ep, h4, h5⟩ := h; exact ⟨h1, h2, h3, o, es, ep, e _ h4, h5⟩
  | m ys => obtain ⟨h1, h2, o, es, ep, h4, h5⟩ := h; exact ⟨h1, h2, o, es, ep, e _ h4, h5⟩
theorem DictH.there {a : Addr} {r : DRep} (h : DictH U H a r) : ∃ u, H a = some u := by
  cases r with
  | t xs => obtain ⟨h1, h2, h3, o, es, ep, h4, h5⟩ := h; exact ⟨_, h4⟩
  | m ys => obtain ⟨h1, h2, o, es, ep, h4, h5⟩ := h; exact ⟨_, h4⟩

theorem CtD.there {kvs : List (D × D)} {a : Addr} (h : CtD U H O kvs a) : ∃ u, H a = some u := by
  rcases h with ⟨_, ⟨xs, h, _⟩ | ⟨ys, h, _⟩⟩ | ⟨c, C, dx, fv, _, e, _⟩
  · exact h.there
  · exact h.there
  · exact ⟨_, e⟩
mutual
theorem Rp.move (m : Mv H O H' O') : ∀ (d : D) (v : V), Rp U H O d v → Rp U H' O' d v
  | .none, _, h => h
  | .bool _, _, h => h
  | .int _, _, h => h
  | .str _, _, h => h
  | .tuple ds, v, h => by
    obtain ⟨a, xs, e, q, r⟩ := h
    refine ⟨a, xs, e, ?_, RpL.move m ds xs r⟩
    rcases q with ⟨q, n⟩ | q
    · exact .inl (m.rd q n)
    · exact .inr q
  | .list ds, v, h => by
    obtain ⟨a, xs, e, q, r⟩ := h
    refine ⟨a, xs, e, ?_, RpL.move m ds xs r⟩
    rcases q with ⟨q, n⟩ | q
    · exact .inl (m.rd q n)
    · exact .inr q
  | .dict kvs, v, h => by
    obtain ⟨a, e, n, r⟩ := h
    obtain ⟨u, q⟩ := CtD.there (U := U) (O := O) r
    refine ⟨a, e, (m a u q n).2, ?_⟩
    have ea : ∀ u, H a = some u → H' a = some u := fun u q => (m a u q n).1
    rcases r with ⟨t, ⟨xs, h, r⟩ | ⟨ys, h, r⟩⟩ | ⟨c, C, dx, fv, t, e, l, g, r⟩
    · exact .inl ⟨t, .inl ⟨xs, h.moveAt ea, RpT.move m kvs xs r⟩⟩
    · exact .inl ⟨t, .inr ⟨ys, h.moveAt ea, RpM.move m kvs ys r⟩⟩
    · exact .inr ⟨c, C, dx, fv, t, ea _ e, l, g, RpF.move m kvs _ fv r⟩
termination_by structural d => d
theorem RpL.move (m : Mv H O H' O') : ∀ (ds : List D) (xs : List V), RpL U H O ds xs → RpL U H' O' ds xs
  | [], _, h => h
  | d :: ds, _, h => by
    obtain ⟨x, r, e, h1, h2⟩ := h
    exact ⟨x, r, e, Rp.move m d x h1, RpL.move m ds r h2⟩
termination_by structural d => d
theorem RpF.move (m : Mv H O H' O') : ∀ (fs : List (D × D)) (fn : List (Option Str)) (fv : List (Str × V)), RpF U H O fs fn fv → RpF U H' O' fs fn fv
  | [], _, _, h => h
  | (k, d) :: fs, fn, fv, h => by
    obtain ⟨f, fr, e, q, r⟩ := h
    refine ⟨f, fr, e, fun g hg => ?_, RpF.move m fs fr fv r⟩
    rcases q g hg with ⟨hk, x, e1, e2⟩ | q
    · exact .inl ⟨hk, x, e1, Rp.move m d x e2⟩
    · exact .inr q
termination_by structural d => d
theorem RpT.move (m : Mv H O H' O') : ∀ (kvs : List (D × D)) (xs : List (NestedKey × Addr × Value)), RpT U H O kvs xs → RpT U H' O' kvs xs
  | [], _, h => h
  | (k, d) :: r, _, h => by
    obtain ⟨nk, b, u, v, xr, e, h1, h2, h3, h4, h5, h6⟩ := h
    exact ⟨nk, b, u, v, xr, e, h1, h2, Rp.move m k _ h3, h4, Rp.move m d v h5, RpT.move m r xr h6⟩
termination_by structural d => d
theorem RpM.move (m : Mv H O H' O') : ∀ (kvs : List (D × D)) (ys : List (Key × Value)), RpM U H O kvs ys → RpM U H' O' kvs ys
  | [], _, h => h
  | (k, d) :: r, _, h => by
    obtain ⟨ky, u, v, yr, e, h1, h4, h5, h6⟩ := h
    exact ⟨ky, u, v, yr, e, h1, h4, Rp.move m d v h5, RpM.move m r yr h6⟩
termination_by structural d => d
end
theorem CtD.move (m : Mv H O H' O') {kvs : List (D × D)} {a : Addr} (ea : ∀ u, H a = some u → H' a = some u) (r : CtD U H O kvs a) : CtD U H' O' kvs a := by
  rcases r with ⟨t, ⟨xs, h, r⟩ | ⟨ys, h, r⟩⟩ | ⟨c, C, dx, fv, t, e, l, g, r⟩
  · exact .inl ⟨t, .inl ⟨xs, h.moveAt ea, RpT.move m kvs xs r⟩⟩
  · exact .inl ⟨t, .inr ⟨ys, h.moveAt ea, RpM.move m kvs ys r⟩⟩
  · exact .inr ⟨c, C, dx, fv, t, ea _ e, l, g, RpF.move m kvs _ fv r⟩
theorem Ct.there {a : Addr} {d : D} (h : Ct U H O a d) : ∃ u, H a = some u := by
  cases d with
  | list ds =>
    obtain ⟨xs, h, _⟩ := h
    rcases h with h | ⟨o, h⟩ <;> exact ⟨_, h⟩
  | dict kvs => exact CtD.there h
  | _ => exact h.elim
theorem Ct.move (m : Mv H O H' O') {a : Addr} {d : D} (e : ∀ u, H a = some u → H' a = some u) (h : Ct U H O a d) : Ct U H' O' a d := by
  cases d with
  | list ds =>
    obtain ⟨xs, q, r⟩ := h
    refine ⟨xs, ?_, RpL.move m ds xs r⟩
    rcases q with q | ⟨o, q⟩
    · exact .inl (e _ q)
    · exact .inr ⟨o, e _ q⟩
  | dict kvs => exact CtD.move m e h
  | _ => exact h.elim
/-- what is owned no more -/
theorem Ct.rp {a : Addr} {d : D} (h : Ct U H O a d) (n : ¬ O a) : Rp U H O d (.ref a) := by
  cases d with
  | list ds =>
    obtain ⟨xs, q, r⟩ := h
    exact ⟨a, xs, rfl, .inl ⟨q, n⟩, r⟩
  | dict kvs => exact ⟨a, rfl, n, h⟩
  | _ => exact h.elim
theorem RpL.length : ∀ {ds : List D} {xs : List V}, RpL U H O ds xs → ds.length = xs.length
  | [], _, h => by cases h; rfl
  | d :: ds, _, h => by
    obtain ⟨x, r, rfl, _, h2⟩ := h
    simp [RpL.length h2]
theorem RpL.get : ∀ {ds : List D} {xs : List V} {i : Nat} {d : D}, RpL U H O ds xs → ds[i]? = some d → ∃ x, xs[i]? = some x ∧ Rp U H O d x
  | [], _, _, _, _, e => by simp at e
  | d :: ds, _, 0, _, h, e => by
    obtain ⟨x, r, rfl, h1, h2⟩ := h
    simp at e; subst e
    exact ⟨x, rfl, h1⟩
  | d :: ds, _, i + 1, _, h, e => by
    obtain ⟨x, r, rfl, h1, h2⟩ := h
    obtain ⟨y, e1, e2⟩ := RpL.get (i := i) h2 (by simpa using e)
    exact ⟨y, by simpa using e1, e2⟩
theorem RpL.append : ∀ {ds es : List D} {xs ys : List V}, RpL U H O ds xs → RpL U H O es ys → RpL U H O (ds ++ es) (xs ++ ys)
  | [], _, _, _, h, g => by cases h; exact g
  | d :: ds, _, _, _, h, g => by
    obtain ⟨x, r, rfl, h1, h2⟩ := h
    exact ⟨x, _, rfl, h1, RpL.append h2 g⟩
theorem RpL.take : ∀ {ds : List D} {xs : List V} (n : Nat), RpL U H O ds xs → RpL U H O (ds.take n) (xs.take n)
  | _, _, 0, _ => rfl
  | [], _, n + 1, h => by cases h; rfl
  | d :: ds, _, n + 1, h => by
    obtain ⟨x, r, rfl, h1, h2⟩ := h
    exact ⟨x, _, rfl, h1, RpL.take n h2⟩
theorem RpL.drop : ∀ {ds : List D} {xs : List V} (n : Nat), RpL U H O ds xs → RpL U H O (ds.drop n) (xs.drop n)
  | _, _, 0, h => h
  | [], _, n + 1, h => by cases h; rfl
  | d :: ds, _, n + 1, h => by
    obtain ⟨x, r, rfl, h1, h2⟩ := h
    exact RpL.drop n h2
theorem RpL.set : ∀ {ds : List D} {xs : List V} {d : D} {x : V} (i : Nat), RpL U H O ds xs → Rp U H O d x → RpL U H O (ds.set i d) (xs.set i x)
  | [], _, _, _, _, h, _ => by cases h; rfl
  | d :: ds, _, _, _, 0, h, g => by
    obtain ⟨x, r, rfl, h1, h2⟩ := h
    exact ⟨_, _, rfl, g, h2⟩
  | d :: ds, _, _, _, i + 1, h, g => by
    obtain ⟨x, r, rfl, h1, h2⟩ := h
    exact ⟨_, _, rfl, h1, RpL.set i h2 g⟩
theorem RpL.one {d : D} {x : V} (h : Rp U H O d x) : RpL U H O [d] [x] := ⟨x, [], rfl, h, rfl⟩
theorem RpL.reverse : ∀ {ds : List D} {xs : List V}, RpL U H O ds xs → RpL U H O ds.reverse xs.reverse
  | [], _, h => by cases h; rfl
  | d :: ds, _, h => by
    obtain ⟨x, r, rfl, h1, h2⟩ := h
    rw [List.reverse_cons, List.reverse_cons]
    exact RpL.append (RpL.reverse h2) (RpL.one h1)
theorem RpL.dropLast {ds : List D} {xs : List V} (h : RpL U H O ds xs) : RpL U H O ds.dropLast xs.dropLast := by
  rw [List.dropLast_eq_take, List.dropLast_eq_take, h.length]
  exact h.take _
end LT
end
section
set_option linter.all false
set_option maxRecDepth 100000
/-! Slots and the abstract heap. -/
namespace LT
open PySem PySem.Spec PyProof.Rows L2

/-- H0: the heap at the entry; O0: what others own; IO: what may be changed of H0 -/
structure Gh where
  H0 : Hp
  O0 : Addr → Prop
  A : Nat → Addr → Prop
  IO : Addr → Prop
  B : Addr → Prop
  ao : ∀ i a, A i a → O0 a
  ai : ∀ i a, A i a → IO a
  bi : ∀ a, B a → H0 a ≠ none ∧ ¬ IO a
def Gh.addV (G : Gh) (v : V) : Gh := { G with O0 := fun b => G.O0 b ∨ v = .ref b, ao := fun i a z => .inl (G.ao i a z) }
def Mu (ρ : Ro) (σ : L2.St) (b : Addr) : Prop := ∃ i d, (ρ.at i = .ow d ∨ ρ.at i = .io d) ∧ σ[i]? = some (some (.ref b))
def Pr (G : Gh) (ρ : Ro) (σ : L2.St) (b : Addr) : Prop := G.O0 b ∨ Mu ρ σ b

structure Rel (U : Su) (G : Gh) (ρ : Ro) (σ : L2.St) (H : Hp) : Prop where
  len : ρ.length = σ.length
  va : ∀ i d, ρ.at i = .va d → ∃ v, σ[i]? = some (some v) ∧ Rp U H (Pr G ρ σ) d v
  ow : ∀ i d, ρ.at i = .ow d → ∃ a, σ[i]? = some (some (.ref a)) ∧ Ct U H (Pr G ρ σ) a d ∧ Mut (H a) ∧ ¬ G.O0 a ∧ (G.H0 a = none ∨ G.IO a)
  io : ∀ i d, ρ.at i = .io d → ∃ a, σ[i]? = some (some (.ref a)) ∧ Ct U H (Pr G ρ σ) a d ∧ Mut (H a) ∧ G.A i a
  bo : ∀ i d, ρ.at i = .bo d → ∃ v, σ[i]? = some (some v) ∧ (Rp U H (Pr G ρ σ) d v ∨ ∃ a, v = .ref a ∧ Ct U H (Pr G ρ σ) a d ∧ G.B a)
  inj : ∀ i j d e a, (ρ.at i = .ow d ∨ ρ.at i = .io d) → (ρ.at j = .ow e ∨ ρ.at j = .io e) → σ[i]? = some (some (.ref a)) → σ[j]? = some (some (.ref a)) → i = j
  kp : ∀ b u, G.H0 b = some u → ¬ G.IO b → H b = some u
  o0 : ∀ b, G.O0 b → H b ≠ none
/-- outside what is owned all stands as it was -/
def Fr (ρ : Ro) (σ : L2.St) (H H' : Hp) : Prop := ∀ b u, H b = some u → ¬ Mu ρ σ b → H' b = some u
def Sb (ρ' ρ : Ro) (σ : L2.St) : Prop := ∀ b, Mu ρ' σ b → Mu ρ σ b
/-- v is read as x -/
def Rv (U : Su) (H : Hp) (O : Addr → Prop) (x : D) (v : V) : Prop := Rp U H O x v ∨ ∃ a, v = .ref a ∧ Ct U H O a x
def gh (G : Gh) (h : Hd) (v : V) : Gh := match h with
  | .d _ true => G.addV v
  | _ => G
def HdV (U : Su) (G : Gh) (ρ : Ro) (σ : L2.St) (H : Hp) (h : Hd) (v : V) : Prop := match h with
  | .s i => σ[i]? = some (some v) ∧ ρ.at i ≠ .un
  | .d x false => Rp U H (Pr G ρ σ) x v
  | .d x true => ∃ a, v = .ref a ∧ Ct U H (Pr (G.addV v) ρ σ) a x ∧ Mut (H a) ∧ ¬ Pr G ρ σ a ∧ (G.H0 a = none ∨ G.IO a)
/-- how an expression ends -/
structure HdR (U : Su) (G : Gh) (ρ : Ro) (σ : L2.St) (H : Hp) (h : Hd) (v : V) : Prop where
  rel : Rel U (gh G h v) ρ σ H
  val : HdV U G ρ σ H h v

variable {U : Su} {G : Gh} {ρ ρ' ρ2 : Ro} {σ σ' : L2.St} {H H' H2 : Hp} {h : Hd} {v : V} {x : D}

theorem Fr.refl : Fr ρ σ H H := fun _ _ e _ => e
theorem Sb.refl : Sb ρ ρ σ := fun _ e => e
theorem Sb.trans (a : Sb ρ2 ρ' σ) (b : Sb ρ' ρ σ) : Sb ρ2 ρ σ := fun c h => b c (a c h)
theorem Fr.trans (a : Fr ρ σ H H') (s : Sb ρ' ρ σ) (b : Fr ρ' σ H' H2) : Fr ρ σ H H2 := fun c u e n => b c u (a c u e n) fun z => n (s c z)
theorem Fr.same (s : Same H H') : Fr ρ σ H H' := fun b u e _ => s b u e
theorem Fr.and_same (a : Fr ρ σ H H') (s : Same H' H2) : Fr ρ σ H H2 := fun b u e n => s b u (a b u e n)
theorem same_upd {p : Addr} {o : HO} (n : H p = none) : Same H (upd H p o) := fun b u e => by rw [upd_ne (ne_of_none e n)]; exact e
theorem Rel.lt (R : Rel U G ρ σ H) {i : Nat} {v : Option V} (e : σ[i]? = some v) : i < ρ.length := by
  rw [R.len]; exact (List.getElem?_eq_some_iff.mp e).1
theorem Ro.at_set (ρ : Ro) (i j : Nat) (s : Sl) : Ro.at (ρ.set i s) j = if i = j ∧ i < ρ.length then s else ρ.at j := by
  unfold Ro.at
  rw [List.getD_eq_getElem?_getD, List.getD_eq_getElem?_getD, List.getElem?_set]
  by_cases h : i = j
  · subst h
    by_cases hl : i < ρ.length
    · simp [hl]
    · simp [hl]
  · simp [h]
theorem Ro.at_lt {ρ : Ro} {i : Nat} (h : ρ.at i ≠ .un) : i < ρ.length := by
  by_cases hl : i < ρ.length
  · exact hl
  · unfold Ro.at at h
    rw [List.getD_eq_getElem?_getD, List.getElem?_eq_none (by omega)] at h
    exact absurd rfl h
theorem Rel.mu_mut (R : Rel U G ρ σ H) {b : Addr} (m : Mu ρ σ b) : Mut (H b) ∧ (G.H0 b = none ∨ G.IO b) := by
  obtain ⟨i, d, h, e⟩ := m
  rcases h with h | h
  · obtain ⟨a, e1, _, m, _, n⟩ := R.ow i d h
    rw [e] at e1; cases e1
    exact ⟨m, n⟩
  · obtain ⟨a, e1, _, m, n⟩ := R.io i d h
    rw [e] at e1; cases e1
    exact ⟨m, .inr (G.ai _ _ n)⟩
theorem mut_some {o : Option HO} (m : Mut o) : ∃ u, o = some u := by
  cases o with
  | none => exact m.elim
  | some u => exact ⟨u, rfl⟩
theorem Rel.pr_some (R : Rel U G ρ σ H) {b : Addr} (m : Pr G ρ σ b) : H b ≠ none := by
  rcases m with m | m
  · exact R.o0 b m
  · obtain ⟨u, e⟩ := mut_some (R.mu_mut m).1
    rw [e]; exact fun z => nomatch z
theorem Rel.bo_mu (R : Rel U G ρ σ H) {a : Addr} (b : G.B a) : ¬ Mu ρ σ a := fun m => by
  obtain ⟨n, i⟩ := G.bi a b
  rcases (R.mu_mut m).2 with z | z
  · exact n z
  · exact i z
/-- only new objects -/
theorem Rel.same (R : Rel U G ρ σ H) (s : Same H H') : Rel U G ρ σ H' := by
  have mv : Mv H (Pr G ρ σ) H' (Pr G ρ σ) := .frame fun b u e _ => s b u e
  refine ⟨R.len, fun i d h => ?_, fun i d h => ?_, fun i d h => ?_, fun i d h => ?_, R.inj, fun b u e n => s b u (R.kp b u e n), fun b o z => ?_⟩
  · obtain ⟨v, e, r⟩ := R.va i d h
    exact ⟨v, e, r.move mv⟩
  · obtain ⟨a, e, r, m, n⟩ := R.ow i d h
    obtain ⟨u, eu⟩ := mut_some m
    exact ⟨a, e, r.move mv fun u e => s a u e, by rw [s a u eu, ← eu]; exact m, n⟩
  · obtain ⟨a, e, r, m, n⟩ := R.io i d h
    obtain ⟨u, eu⟩ := mut_some m
    exact ⟨a, e, r.move mv fun u e => s a u e, by rw [s a u eu, ← eu]; exact m, n⟩
  · obtain ⟨v, e, r⟩ := R.bo i d h
    refine ⟨v, e, ?_⟩
    rcases r with r | ⟨a, ea, r, n⟩
    · exact .inl (r.move mv)
    · exact .inr ⟨a, ea, r.move mv fun u e => s a u e, n⟩
  · cases q : H b with
    | none => exact R.o0 b o q
    | some u => rw [s b u q] at z; cases z
theorem Pr.mono {G G' : Gh} (h : ∀ b, G'.O0 b → G.O0 b) {b : Addr} (p : Pr G' ρ σ b) : Pr G ρ σ b := p.imp (h b) id
theorem Rel.weak {G' : Gh} (R : Rel U G ρ σ H) (h : ∀ b, G'.O0 b → G.O0 b) (e1 : G'.H0 = G.H0) (e2 : G'.IO = G.IO) (e3 : G'.A = G.A) (e4 : G'.B = G.B) : Rel U G' ρ σ H := by
  have mv : Mv H (Pr G ρ σ) H (Pr G' ρ σ) := .mono fun b => Pr.mono h
  refine ⟨R.len, fun i d q => ?_, fun i d q => ?_, fun i d q => ?_, fun i d q => ?_, R.inj, fun b u e n => R.kp b u (by rw [← e1]; exact e) (by rw [← e2]; exact n), fun b o => R.o0 b (h b o)⟩
  · obtain ⟨v, e, r⟩ := R.va i d q
    exact ⟨v, e, r.move mv⟩
  · obtain ⟨a, e, r, m, n, k⟩ := R.ow i d q
    exact ⟨a, e, r.move mv fun _ e => e, m, fun z => n (h a z), by rw [e1, e2]; exact k⟩
  · obtain ⟨a, e, r, m, n⟩ := R.io i d q
    exact ⟨a, e, r.move mv fun _ e => e, m, by rw [e3]; exact n⟩
  · obtain ⟨v, e, r⟩ := R.bo i d q
    refine ⟨v, e, ?_⟩
    rcases r with r | ⟨a, ea, r, n⟩
    · exact .inl (r.move mv)
    · exact .inr ⟨a, ea, r.move mv fun _ e => e, by rw [e4]; exact n⟩
theorem gh_O0 (G : Gh) (h : Hd) (v : V) (b : Addr) (o : G.O0 b) : (gh G h v).O0 b := by
  unfold gh
  split
  · exact .inl o
  · exact o
theorem gh_H0 (G : Gh) (h : Hd) (v : V) : (gh G h v).H0 = G.H0 := by unfold gh; split <;> rfl
theorem gh_IO (G : Gh) (h : Hd) (v : V) : (gh G h v).IO = G.IO := by unfold gh; split <;> rfl
theorem gh_A (G : Gh) (h : Hd) (v : V) : (gh G h v).A = G.A := by unfold gh; split <;> rfl
theorem gh_B (G : Gh) (h : Hd) (v : V) : (gh G h v).B = G.B := by unfold gh; split <;> rfl
theorem Rel.un (R : Rel U (gh G h v) ρ σ H) : Rel U G ρ σ H := R.weak (gh_O0 G h v) (gh_H0 G h v).symm (gh_IO G h v).symm (gh_A G h v).symm (gh_B G h v).symm
theorem HdR.relG (r : HdR U G ρ σ H h v) : Rel U G ρ σ H := r.rel.un
/-- a new address, owned by nobody -/
theorem Rel.fresh (R : Rel U G ρ σ H) {p : Addr} {o : HO} (n : H p = none) : Rel U (G.addV (.ref p)) ρ σ (upd H p o) := by
  have mv : Mv H (Pr G ρ σ) (upd H p o) (Pr (G.addV (.ref p)) ρ σ) := fun b u e nb => ⟨by rw [upd_ne (ne_of_none e n)]; exact e, fun z => by
    rcases z with (z | z) | z
    · exact nb (.inl z)
    · cases z
      rw [n] at e; cases e
    · exact nb (.inr z)⟩
  have ea : ∀ a u, H a = some u → upd H p o a = some u := fun a u e => by rw [upd_ne (ne_of_none e n)]; exact e
  refine ⟨R.len, fun i d q => ?_, fun i d q => ?_, fun i d q => ?_, fun i d q => ?_, R.inj, fun b u e k => ea b u (R.kp b u e k), fun b z => ?_⟩
  · obtain ⟨v, e, r⟩ := R.va i d q
    exact ⟨v, e, r.move mv⟩
  · obtain ⟨a, e, r, m, k, l⟩ := R.ow i d q
    obtain ⟨u, eu⟩ := mut_some m
    refine ⟨a, e, r.move mv (ea a), by rw [ea a u eu, ← eu]; exact m, fun z => ?_, l⟩
    rcases z with z | z
    · exact k z
    · cases z
      rw [n] at eu; cases eu
  · obtain ⟨a, e, r, m, k⟩ := R.io i d q
    obtain ⟨u, eu⟩ := mut_some m
    exact ⟨a, e, r.move mv (ea a), by rw [ea a u eu, ← eu]; exact m, k⟩
  · obtain ⟨v, e, r⟩ := R.bo i d q
    refine ⟨v, e, ?_⟩
    rcases r with r | ⟨a, ea', r, k⟩
    · exact .inl (r.move mv)
    · exact .inr ⟨a, ea', r.move mv (ea a), k⟩
  · rcases z with z | z
    · intro q
      have : H b ≠ none := R.o0 b z
      cases e : H b with
      | none => exact this e
      | some u => rw [ea b u e] at q; cases q
    · cases z
      rw [upd_same]; exact fun q => nomatch q
theorem Rel.mv_fresh (R : Rel U G ρ σ H) {p : Addr} {o : HO} (n : H p = none) : Mv H (Pr G ρ σ) (upd H p o) (Pr (G.addV (.ref p)) ρ σ) := fun b u e nb => ⟨by rw [upd_ne (ne_of_none e n)]; exact e, fun z => by
    rcases z with (z | z) | z
    · exact nb (.inl z)
    · cases z
      rw [n] at e; cases e
    · exact nb (.inr z)⟩
theorem Rel.h0_fresh (R : Rel U G ρ σ H) {p : Addr} (n : H p = none) : G.H0 p = none ∨ G.IO p := by
  cases e : G.H0 p with
  | none => exact .inl rfl
  | some u =>
    refine .inr (Classical.byContradiction fun k => ?_)
    rw [R.kp p u e k] at n; cases n
/-- a new object that is a list, a dict, an instance -/
theorem Rel.newOwn (R : Rel U G ρ σ H) {p : Addr} {o : HO} {d : D} (n : H p = none) (mu : Mut (some o)) (c : Ct U (upd H p o) (Pr (G.addV (.ref p)) ρ σ) p d) : HdR U G ρ σ (upd H p o) (.d d true) (.ref p) :=
  ⟨R.fresh n, p, rfl, c, by rw [upd_same]; exact mu, fun z => R.pr_some z n, R.h0_fresh n⟩
theorem Rel.newLst (R : Rel U G ρ σ H) {p : Addr} {ds : List D} {xs : List V} (n : H p = none) (r : RpL U H (Pr G ρ σ) ds xs) : HdR U G ρ σ (upd H p (.lst xs)) (.d (.list ds) true) (.ref p) :=
  R.newOwn n trivial ⟨xs, .inl upd_same, r.move (R.mv_fresh n)⟩
theorem Rel.newTup (R : Rel U G ρ σ H) {p : Addr} {ds : List D} {xs : List V} (n : H p = none) (r : RpL U H (Pr G ρ σ) ds xs) : HdR U G ρ σ (upd H p (.tup xs)) (.d (.tuple ds) false) (.ref p) := by
  refine ⟨R.same (same_upd n), p, xs, rfl, .inl ⟨.inl upd_same, fun z => R.pr_some z n⟩, r.move (.frame fun b u e _ => same_upd n b u e)⟩
theorem Rel.val (R : Rel U G ρ σ H) {d : D} {v : V} (r : Rp U H (Pr G ρ σ) d v) : HdR U G ρ σ H (.d d false) v := ⟨R, r⟩
/-- what is read, the later state at hand -/
theorem Rel.rd (R : Rel U G ρ σ H) {i : Nat} {v : V} {x : D} (e : σ[i]? = some (some v)) (g : rd ρ i = some x) : Rv U H (Pr G ρ σ) x v := by
  unfold LT.rd at g
  split at g
  · rename_i d h
    cases g
    obtain ⟨w, e1, r⟩ := R.va i _ h
    rw [e] at e1; cases e1
    exact .inl r
  · rename_i d h
    cases g
    obtain ⟨a, e1, r, _⟩ := R.ow i _ h
    rw [e] at e1; cases e1
    exact .inr ⟨a, rfl, r⟩
  · rename_i d h
    cases g
    obtain ⟨a, e1, r, _⟩ := R.io i _ h
    rw [e] at e1; cases e1
    exact .inr ⟨a, rfl, r⟩
  · rename_i d h
    cases g
    obtain ⟨w, e1, r⟩ := R.bo i _ h
    rw [e] at e1; cases e1
    rcases r with r | ⟨a, ea, r, _⟩
    · exact .inl r
    · exact .inr ⟨a, ea, r⟩
  · cases g
theorem Rv.move {O O' : Addr → Prop} (m : Mv H O H' O') (ea : ∀ a, v = .ref a → ∀ u, H a = some u → H' a = some u) (r : Rv U H O x v) : Rv U H' O' x v := by
  rcases r with r | ⟨a, e, r⟩
  · exact .inl (r.move m)
  · exact .inr ⟨a, e, r.move m (ea a e)⟩
theorem mv_later {G1 : Gh} (F : Fr ρ σ H H') (S : Sb ρ' ρ σ) (ho : ∀ b, G1.O0 b → G.O0 b) : Mv H (Pr G ρ σ) H' (Pr G1 ρ' σ) := fun b u e n =>
  ⟨F b u e fun z => n (.inr z), fun z => n (z.imp (ho b) (S b))⟩
/-- an operand is read when all operands have been reckoned -/
theorem HdR.get (r : HdR U G ρ σ H h v) (F : Fr ρ σ H H') (S : Sb ρ' ρ σ) (R : Rel U (gh G h v) ρ' σ H') (g : h.get ρ' = some x) : Rv U H' (Pr (gh G h v) ρ' σ) x v := by
  obtain ⟨_, val⟩ := r
  cases h with
  | s i => exact R.rd val.1 g
  | d y own =>
    cases g
    cases own with
    | false => exact .inl (Rp.move (mv_later F S fun _ o => o) _ _ val)
    | true =>
      obtain ⟨a, e, c, m, n, k⟩ := val
      refine .inr ⟨a, e, c.move (mv_later F S fun _ o => o) fun u eu => F a u eu fun z => n (.inr z)⟩
/-- .. at once -/
theorem HdR.get0 (r : HdR U G ρ σ H h v) (g : h.get ρ = some x) : Rv U H (Pr (gh G h v) ρ σ) x v := r.get .refl .refl r.rel g
theorem Rv.weak {O O' : Addr → Prop} (m : ∀ b, O' b → O b) (r : Rv U H O x v) : Rv U H O' x v := r.move (.mono m) fun _ _ _ e => e
end LT
end
section
set_option linter.all false
set_option maxRecDepth 100000
namespace LT
open PySem PySem.Spec PyProof.Rows L2
variable {U : Su} {G : Gh} {ρ ρ' ρ2 : Ro} {σ σ' : L2.St} {H H' H2 : Hp} {h : Hd} {v : V} {x d : D}

theorem mu_set_va {i : Nat} {v : Option V} {b : Addr} (m : Mu (ρ.set i (.va d)) (σ.set i v) b) (hi : i < ρ.length) : Mu ρ σ b := by
  obtain ⟨j, e, h, k⟩ := m
  rw [Ro.at_set] at h
  by_cases hij : i = j
  · subst hij
    simp [hi] at h
  · rw [if_neg (fun z => hij z.1)] at h
    rw [List.getElem?_set_ne hij] at k
    exact ⟨j, e, h, k⟩
/-- a slot gets a value -/
theorem Rel.set_va (R : Rel U G ρ σ H) {i : Nat} (hi : i < ρ.length) (r : Rp U H (Pr G ρ σ) d v) : Rel U G (ρ.set i (.va d)) (σ.set i (some v)) H := by
  have hs : i < σ.length := by rw [← R.len]; exact hi
  have mo : ∀ b, Pr G (ρ.set i (.va d)) (σ.set i (some v)) b → Pr G ρ σ b := fun b z => z.imp id fun m => mu_set_va m hi
  have mv : Mv H (Pr G ρ σ) H (Pr G (ρ.set i (.va d)) (σ.set i (some v))) := .mono mo
  have out : ∀ {j s}, Ro.at (ρ.set i (.va d)) j = s → (i = j ∧ s = .va d) ∨ (i ≠ j ∧ ρ.at j = s) := fun {j s} e => by
    rw [Ro.at_set] at e
    by_cases hij : i = j
    · rw [if_pos ⟨hij, hi⟩] at e; exact .inl ⟨hij, e.symm⟩
    · rw [if_neg (fun z => hij z.1)] at e; exact .inr ⟨hij, e⟩
  refine ⟨by simp [R.len], fun j e q => ?_, fun j e q => ?_, fun j e q => ?_, fun j e q => ?_, fun j k e f a q1 q2 q3 q4 => ?_, R.kp, R.o0⟩
  · rcases out q with ⟨hij, q'⟩ | ⟨ne, q⟩
    · subst hij
      injection q' with q'
      subst q'
      exact ⟨v, by rw [List.getElem?_set_self hs], r.move mv⟩
    · obtain ⟨w, e1, r1⟩ := R.va j e q
      exact ⟨w, by rw [List.getElem?_set_ne ne]; exact e1, r1.move mv⟩
  · rcases out q with ⟨_, q⟩ | ⟨ne, q⟩
    · cases q
    · obtain ⟨a, e1, r1, m⟩ := R.ow j e q
      exact ⟨a, by rw [List.getElem?_set_ne ne]; exact e1, r1.move mv fun _ z => z, m⟩
  · rcases out q with ⟨_, q⟩ | ⟨ne, q⟩
    · cases q
    · obtain ⟨a, e1, r1, m⟩ := R.io j e q
      exact ⟨a, by rw [List.getElem?_set_ne ne]; exact e1, r1.move mv fun _ z => z, m⟩
  · rcases out q with ⟨_, q⟩ | ⟨ne, q⟩
    · cases q
    · obtain ⟨w, e1, r1⟩ := R.bo j e q
      refine ⟨w, by rw [List.getElem?_set_ne ne]; exact e1, ?_⟩
      rcases r1 with r1 | ⟨a, ea, r1, n⟩
      · exact .inl (r1.move mv)
      · exact .inr ⟨a, ea, r1.move mv fun _ z => z, n⟩
  · have z1 : i ≠ j ∧ (ρ.at j = .ow e ∨ ρ.at j = .io e) := by
      rcases q1 with q | q
      · rcases out q with ⟨_, q⟩ | ⟨ne, q⟩
        · cases q
        · exact ⟨ne, .inl q⟩
      · rcases out q with ⟨_, q⟩ | ⟨ne, q⟩
        · cases q
        · exact ⟨ne, .inr q⟩
    have z2 : i ≠ k ∧ (ρ.at k = .ow f ∨ ρ.at k = .io f) := by
      rcases q2 with q | q
      · rcases out q with ⟨_, q⟩ | ⟨ne, q⟩
        · cases q
        · exact ⟨ne, .inl q⟩
      · rcases out q with ⟨_, q⟩ | ⟨ne, q⟩
        · cases q
        · exact ⟨ne, .inr q⟩
    rw [List.getElem?_set_ne z1.1] at q3
    rw [List.getElem?_set_ne z2.1] at q4
    exact R.inj j k e f a z1.2 z2.2 q3 q4
/-- a slot is forgotten -/
theorem mu_set_un {i : Nat} {v : Option V} {b : Addr} (m : Mu (ρ.set i .un) (σ.set i v) b) : Mu ρ σ b := by
  obtain ⟨j, e, h, k⟩ := m
  rw [Ro.at_set] at h
  by_cases hij : i = j
  · subst hij
    by_cases hi : i < ρ.length
    · simp [hi] at h
    · rw [if_neg (fun z => hi z.2)] at h
      have : ρ.at i ≠ .un := by rcases h with h | h <;> rw [h] <;> exact fun z => nomatch z
      exact absurd (Ro.at_lt this) hi
  · rw [if_neg (fun z => hij z.1)] at h
    rw [List.getElem?_set_ne hij] at k
    exact ⟨j, e, h, k⟩
theorem set_self_eq {α : Type} (l : List α) (i : Nat) (a : α) (h : l[i]? = some a) : l.set i a = l := by
  apply List.ext_getElem?
  intro j
  by_cases hij : i = j
  · subst hij
    rw [List.getElem?_set_self (List.getElem?_eq_some_iff.mp h).1, h]
  · rw [List.getElem?_set_ne hij]
/-- an owned slot is owned no more -/
theorem Rel.freeze (R : Rel U G ρ σ H) {i : Nat} (e : ρ.at i = .ow d) (hv : σ[i]? = some (some v)) : Rel U G (ρ.set i (.va d)) σ H ∧ Rp U H (Pr G (ρ.set i (.va d)) σ) d v ∧ Sb (ρ.set i (.va d)) ρ σ := by
  obtain ⟨a, e1, c, m, n, k⟩ := R.ow i d e
  rw [hv] at e1
  cases e1
  have hi : i < ρ.length := R.lt hv
  have hss : σ.set i (some (.ref a)) = σ := set_self_eq σ i _ hv
  have sb : Sb (ρ.set i (.va d)) ρ σ := fun b z => by
    rw [← hss] at z
    exact mu_set_va z hi
  have na : ¬ Pr G (ρ.set i (.va d)) σ a := fun z => by
    rcases z with z | ⟨j, f, z, q⟩
    · exact n z
    · rw [Ro.at_set] at z
      by_cases hij : i = j
      · rw [if_pos ⟨hij, hi⟩] at z
        rcases z with z | z <;> cases z
      · rw [if_neg (fun y => hij y.1)] at z
        exact hij (R.inj i j d f a (.inl e) z hv q)
  have mv : Mv H (Pr G ρ σ) H (Pr G (ρ.set i (.va d)) σ) := .mono fun b z => z.imp id (sb b)
  have rp : Rp U H (Pr G (ρ.set i (.va d)) σ) d (.ref a) := (c.move mv fun _ z => z).rp na
  have out : ∀ {j s}, Ro.at (ρ.set i (.va d)) j = s → (i = j ∧ s = .va d) ∨ (i ≠ j ∧ ρ.at j = s) := fun {j s} e => by
    rw [Ro.at_set] at e
    by_cases hij : i = j
    · rw [if_pos ⟨hij, hi⟩] at e; exact .inl ⟨hij, e.symm⟩
    · rw [if_neg (fun z => hij z.1)] at e; exact .inr ⟨hij, e⟩
  refine ⟨⟨by simp [R.len], fun j e q => ?_, fun j e q => ?_, fun j e q => ?_, fun j e q => ?_, fun j k e f a q1 q2 q3 q4 => ?_, R.kp, R.o0⟩, rp, sb⟩
  · rcases out q with ⟨hij, q'⟩ | ⟨ne, q⟩
    · subst hij
      injection q' with q'
      subst q'
      exact ⟨_, hv, rp⟩
    · obtain ⟨w, e1, r1⟩ := R.va j e q
      exact ⟨w, e1, r1.move mv⟩
  · rcases out q with ⟨_, q⟩ | ⟨ne, q⟩
    · cases q
    · obtain ⟨a, e1, r1, m⟩ := R.ow j e q
      exact ⟨a, e1, r1.move mv fun _ z => z, m⟩
  · rcases out q with ⟨_, q⟩ | ⟨ne, q⟩
    · cases q
    · obtain ⟨a, e1, r1, m⟩ := R.io j e q
      exact ⟨a, e1, r1.move mv fun _ z => z, m⟩
  · rcases out q with ⟨_, q⟩ | ⟨ne, q⟩
    · cases q
    · obtain ⟨w, e1, r1⟩ := R.bo j e q
      refine ⟨w, e1, ?_⟩
      rcases r1 with r1 | ⟨a, ea, r1, n⟩
      · exact .inl (r1.move mv)
      · exact .inr ⟨a, ea, r1.move mv fun _ z => z, n⟩
  · have z1 : (ρ.at j = .ow e ∨ ρ.at j = .io e) := by
      rcases q1 with q | q
      · rcases out q with ⟨_, q⟩ | ⟨ne, q⟩
        · cases q
        · exact .inl q
      · rcases out q with ⟨_, q⟩ | ⟨ne, q⟩
        · cases q
        · exact .inr q
    have z2 : (ρ.at k = .ow f ∨ ρ.at k = .io f) := by
      rcases q2 with q | q
      · rcases out q with ⟨_, q⟩ | ⟨ne, q⟩
        · cases q
        · exact .inl q
      · rcases out q with ⟨_, q⟩ | ⟨ne, q⟩
        · cases q
        · exact .inr q
    exact R.inj j k e f a z1 z2 q3 q4
theorem ct_flat {O : Addr → Prop} {a : Addr} (f : flat d = true) (c : Ct U H O a d) : False := by
  cases d with
  | list _ => cases f
  | dict _ => cases f
  | _ => exact c
theorem HdR.esc {own : Bool} (r : HdR U G ρ σ H h v) (e : esc ρ h = some (d, own, ρ2)) : HdR U G ρ2 σ H (.d d own) v ∧ Sb ρ2 ρ σ := by
  obtain ⟨R, val⟩ := r
  cases h with
  | s i =>
    obtain ⟨ev, _⟩ := val
    unfold LT.esc at e
    dsimp only at e
    split at e
    · rename_i d' h
      cases e
      obtain ⟨w, e1, r⟩ := R.va i _ h
      rw [ev] at e1; cases e1
      exact ⟨⟨R, r⟩, .refl⟩
    · rename_i d' h
      cases e
      obtain ⟨a, b, c⟩ := R.freeze h ev
      exact ⟨⟨a, b⟩, c⟩
    · rename_i d' h
      split at e
      · rename_i f
        cases e
        obtain ⟨w, e1, r⟩ := R.bo i _ h
        rw [ev] at e1; cases e1
        rcases r with r | ⟨a, _, c, _⟩
        · exact ⟨⟨R, r⟩, .refl⟩
        · exact (ct_flat f c).elim
      · cases e
    · cases e
  | d y o =>
    cases e
    exact ⟨⟨R, val⟩, .refl⟩
/-- what may be walked while the rest runs -/
def Wv (U : Su) (G : Gh) (ρ : Ro) (σ : L2.St) (H : Hp) (x : D) (v : V) : Prop := Rp U H (Pr G ρ σ) x v ∨ ∃ a, v = .ref a ∧ Ct U H (Pr G ρ σ) a x ∧ G.B a
theorem HdR.wlk (r : HdR U G ρ σ H h v) (e : wlk ρ h = some (d, ρ2)) : Rel U G ρ2 σ H ∧ Wv U G ρ2 σ H d v ∧ Sb ρ2 ρ σ := by
  obtain ⟨R, val⟩ := r
  cases h with
  | s i =>
    obtain ⟨ev, _⟩ := val
    unfold LT.wlk at e
    dsimp only at e
    split at e
    · rename_i d' h
      cases e
      obtain ⟨w, e1, r⟩ := R.va i _ h
      rw [ev] at e1; cases e1
      exact ⟨R, .inl r, .refl⟩
    · rename_i d' h
      cases e
      obtain ⟨a, b, c⟩ := R.freeze h ev
      exact ⟨a, .inl b, c⟩
    · rename_i d' h
      cases e
      obtain ⟨w, e1, r⟩ := R.bo i _ h
      rw [ev] at e1; cases e1
      exact ⟨R, r, .refl⟩
    · cases e
  | d y o =>
    cases e
    cases o with
    | false => exact ⟨R, .inl val, .refl⟩
    | true =>
      obtain ⟨a, rfl, c, m, n, k⟩ := val
      refine ⟨R.un, .inl ((c.move (.mono fun b z => ?_) fun _ z => z).rp n), .refl⟩
      exact z.imp .inl id
/-- an owned result that goes into a slot -/
theorem Rel.set_ow (R : Rel U (G.addV v) ρ σ H) {i : Nat} {a : Addr} (hi : i < ρ.length) (ea : v = .ref a) (c : Ct U H (Pr (G.addV v) ρ σ) a d) (m : Mut (H a)) (n : ¬ Pr G ρ σ a) (k : G.H0 a = none ∨ G.IO a) :
    Rel U G (ρ.set i (.ow d)) (σ.set i (some v)) H := by
  subst ea
  have hs : i < σ.length := by rw [← R.len]; exact hi
  have out : ∀ {j s}, Ro.at (ρ.set i (.ow d)) j = s → (i = j ∧ s = .ow d) ∨ (i ≠ j ∧ ρ.at j = s) := fun {j s} e => by
    rw [Ro.at_set] at e
    by_cases hij : i = j
    · rw [if_pos ⟨hij, hi⟩] at e; exact .inl ⟨hij, e.symm⟩
    · rw [if_neg (fun z => hij z.1)] at e; exact .inr ⟨hij, e⟩
  have mo : ∀ b, Pr G (ρ.set i (.ow d)) (σ.set i (some (.ref a))) b → Pr (G.addV (.ref a)) ρ σ b := fun b z => by
    rcases z with z | ⟨j, e, z, q⟩
    · exact .inl (.inl z)
    · by_cases hij : i = j
      · subst hij
        rw [List.getElem?_set_self hs] at q
        cases q
        exact .inl (.inr rfl)
      · rw [List.getElem?_set_ne hij] at q
        refine .inr ⟨j, e, ?_, q⟩
        rcases z with z | z
        · rcases out z with ⟨z, _⟩ | ⟨_, z⟩
          · exact absurd z hij
          · exact .inl z
        · rcases out z with ⟨z, _⟩ | ⟨_, z⟩
          · exact absurd z hij
          · exact .inr z
  have mv : Mv H (Pr (G.addV (.ref a)) ρ σ) H (Pr G (ρ.set i (.ow d)) (σ.set i (some (.ref a)))) := .mono mo
  refine ⟨by simp [R.len], fun j e q => ?_, fun j e q => ?_, fun j e q => ?_, fun j e q => ?_, fun j k e f b q1 q2 q3 q4 => ?_, R.kp, fun b z => R.o0 b (.inl z)⟩
  · rcases out q with ⟨_, q⟩ | ⟨ne, q⟩
    · cases q
    · obtain ⟨w, e1, r1⟩ := R.va j e q
      exact ⟨w, by rw [List.getElem?_set_ne ne]; exact e1, r1.move mv⟩
  · rcases out q with ⟨hij, q'⟩ | ⟨ne, q⟩
    · subst hij
      injection q' with q'
      subst q'
      exact ⟨a, by rw [List.getElem?_set_self hs], c.move mv fun _ z => z, m, fun z => n (.inl z), k⟩
    · obtain ⟨b, e1, r1, m1, n1, k1⟩ := R.ow j e q
      exact ⟨b, by rw [List.getElem?_set_ne ne]; exact e1, r1.move mv fun _ z => z, m1, fun z => n1 (.inl z), k1⟩
  · rcases out q with ⟨_, q⟩ | ⟨ne, q⟩
    · cases q
    · obtain ⟨b, e1, r1, m⟩ := R.io j e q
      exact ⟨b, by rw [List.getElem?_set_ne ne]; exact e1, r1.move mv fun _ z => z, m⟩
  · rcases out q with ⟨_, q⟩ | ⟨ne, q⟩
    · cases q
    · obtain ⟨w, e1, r1⟩ := R.bo j e q
      refine ⟨w, by rw [List.getElem?_set_ne ne]; exact e1, ?_⟩
      rcases r1 with r1 | ⟨b, ea, r1, n⟩
      · exact .inl (r1.move mv)
      · exact .inr ⟨b, ea, r1.move mv fun _ z => z, n⟩
  · have lift : ∀ {j e}, (Ro.at (ρ.set i (.ow d)) j = .ow e ∨ Ro.at (ρ.set i (.ow d)) j = .io e) → i ≠ j → (ρ.at j = .ow e ∨ ρ.at j = .io e) := fun {j e} z ne => by
      rcases z with z | z
      · rcases out z with ⟨z, _⟩ | ⟨_, z⟩
        · exact absurd z ne
        · exact .inl z
      · rcases out z with ⟨z, _⟩ | ⟨_, z⟩
        · exact absurd z ne
        · exact .inr z
    by_cases h1 : i = j
    · by_cases h2 : i = k
      · exact h1.symm.trans h2
      · subst h1
        rw [List.getElem?_set_self hs] at q3
        cases q3
        rw [List.getElem?_set_ne h2] at q4
        exact absurd (.inr ⟨k, f, lift q2 h2, q4⟩) n
    · by_cases h2 : i = k
      · subst h2
        rw [List.getElem?_set_self hs] at q4
        cases q4
        rw [List.getElem?_set_ne h1] at q3
        exact absurd (.inr ⟨j, e, lift q1 h1, q3⟩) n
      · rw [List.getElem?_set_ne h1] at q3
        rw [List.getElem?_set_ne h2] at q4
        exact R.inj j k e f b (lift q1 h1) (lift q2 h2) q3 q4
/-- any result goes into a slot -/
theorem HdR.put {own : Bool} (r : HdR U G ρ σ H (.d d own) v) {i : Nat} (hi : i < ρ.length) : Rel U G (ρ.set i (ownS d own)) (σ.set i (some v)) H := by
  obtain ⟨R, val⟩ := r
  cases own with
  | false => exact Rel.set_va R hi val
  | true =>
    obtain ⟨a, e, c, m, n, k⟩ := val
    exact Rel.set_ow R hi e c m n k
end LT
end
section
set_option linter.all false
set_option maxRecDepth 100000
/-! Operators, by values. -/
namespace LT
open PySem PySem.Spec PyProof.Rows L2
abbrev su (X : Cx) : Su := ⟨X.prog, X.w, X.K, X.mg⟩

section
variable {U : Su} {G : Gh} {ρ : Ro} {σ : L2.St} {H : Hp} {O : Addr → Prop} {x y : V} {d e : D}
theorem rv_int {i : Int} (r : Rv U H O (.int i) x) : x = .int i := by
  rcases r with r | ⟨a, _, c⟩
  · exact r
  · exact c.elim
theorem rv_bl {i : Bool} (r : Rv U H O (.bool i) x) : x = .bl i := by
  rcases r with r | ⟨a, _, c⟩
  · exact r
  · exact c.elim
theorem rv_non (r : Rv U H O .none x) : x = .non := by
  rcases r with r | ⟨a, _, c⟩
  · exact r
  · exact c.elim
theorem rv_str {i : Str} (r : Rv U H O (.str i) x) : x = .str i := by
  rcases r with r | ⟨a, _, c⟩
  · exact r
  · exact c.elim
theorem KSeq.tup {K : PySem.W.Frag} {a : Addr} {xs : List V} (h : KSeq K "tuple" a xs) : SqT K H a xs := by
  obtain ⟨o, its, n, h1, h2, _, h3, h4, h5⟩ := h
  exact .inr ⟨o, its, n, h1, h2, h3, h4, h5⟩
theorem rv_tup {ds : List D} (r : Rv U H O (.tuple ds) x) : ∃ a xs, x = .ref a ∧ SqT U.K H a xs ∧ RpL U H O ds xs := by
  rcases r with ⟨a, xs, e, q, r⟩ | ⟨a, _, c⟩
  · refine ⟨a, xs, e, ?_, r⟩
    rcases q with ⟨q, _⟩ | q
    · exact .inl q
    · exact q.tup
  · exact c.elim
theorem KSeq.lst {K : PySem.W.Frag} {a : Addr} {xs : List V} (h : KSeq K "list" a xs) : SqL K H a xs := by
  obtain ⟨o, its, n, h1, h2, h6, h3, h4, h5⟩ := h
  exact .inr ⟨o, its, n, h1, h2, h6, h3, h4, h5⟩
theorem rv_lst {ds : List D} (r : Rv U H O (.list ds) x) : ∃ a xs, x = .ref a ∧ SqL U.K H a xs ∧ RpL U H O ds xs := by
  rcases r with ⟨a, xs, e, q, r⟩ | ⟨a, e, xs, q, r⟩
  · refine ⟨a, xs, e, ?_, r⟩
    rcases q with q | q
    · exact .inl q.1
    · exact q.lst
  · exact ⟨a, xs, e, .inl q, r⟩
theorem rv_dct {kvs : List (D × D)} (r : Rv U H O (.dict kvs) x) : ∃ a, x = .ref a ∧ CtD U H O kvs a := by
  rcases r with ⟨a, e, _, r⟩ | ⟨a, e, c⟩
  · exact ⟨a, e, r⟩
  · exact ⟨a, e, c⟩
theorem rd_sql {K : PySem.W.Frag} {a : Addr} {xs : List V} (h : Rd H a (.lst xs)) : SqL K H a xs := .inl h
theorem RpL.tupLen {ds : List D} {xs : List V} (r : RpL U H O ds xs) : xs.length = ds.length := r.length.symm
theorem RpL.nil_iff {ds : List D} {xs : List V} (r : RpL U H O ds xs) : xs = [] ↔ ds = [] := by
  rw [← List.length_eq_zero_iff, ← List.length_eq_zero_iff, r.length]
theorem RpL.rep {ds : List D} {xs : List V} (r : RpL U H O ds xs) : ∀ k : Nat, RpL U H O (List.replicate k ds).flatten (List.replicate k xs).flatten
  | 0 => rfl
  | k + 1 => by
    rw [List.replicate_succ, List.replicate_succ, List.flatten_cons, List.flatten_cons]
    exact r.append (r.rep k)
end
/-- two data in, a datum out -/
def rDD (U : Su) (f : D → D → Option (D × Bool)) : R2 := fun x y H Q => ∃ G ρ σ a b d own, f a b = some (d, own) ∧ Rel U G ρ σ H ∧ Rv U H (Pr G ρ σ) a x ∧ Rv U H (Pr G ρ σ) b y ∧
  ∀ v H', Same H H' → HdR U G ρ σ H' (.d d own) v → Q v H'
/-- two data in, a truth out -/
def rDB (U : Su) (f : D → D → Option Bool) : R2 := fun x y H Q => ∃ (G : Gh) (ρ : Ro) (σ : L2.St) (a b : D) (r : Bool), f a b = some r ∧ Rel U G ρ σ H ∧ Rv U H (Pr G ρ σ) a x ∧ Rv U H (Pr G ρ σ) b y ∧ Q (.bl r) H
def astO : O2 → Operator
  | .add => .Add | .sub => .Sub | .mul => .Mult | .fdiv => .FloorDiv | .mod => .Mod | .pow => .Pow | .shl => .LShift | .shr => .RShift | .band => .BitAnd | .bor => .BitOr | .bxor => .BitXor

theorem line_eq : line = sizeLine := by rw [sizeLine_eq]; rfl
section
variable {X : Cx}
theorem Inv.lstR {pins : List (Addr × Obj)} {σ : L2.St} {H : Hp} {s : Shared} {l : Addr} {xs : List V} (I : Inv X pins σ H s) (hH : Rd H l (.lst xs)) :
    xs.length ≤ sizeLine ∧ ∃ (its : List Value) (n : Nat), Vals xs its ∧ xs.length = its.length ∧ s.heap.get? l = some { cls := .type "list", data := .seq its.toArray n } := by
  obtain ⟨z, its, n, r, e⟩ := hH.ok I.hok
  exact ⟨z, its, n, r, r.length, e⟩
/-- list + list -/
theorem op_catR : OpR X (binaryOp .Add) (fun x y H Q => ∃ l b xs zs, x = .ref l ∧ y = .ref b ∧ SqL X.K H l xs ∧ SqL X.K H b zs ∧ xs.length + zs.length ≤ sizeLine ∧ ∀ p, H p = none → Q (.ref p) (upd H p (.lst (xs ++ zs)))) := by
  intro pins s σ H x y v u Q I rx ry h
  obtain ⟨l, b, xs, zs, rfl, rfl, hH, hB, hz, q⟩ := h
  cases rx
  cases ry
  obtain ⟨its, r, p1, _⟩ := I.list hH
  obtain ⟨its2, r2, p2, _⟩ := I.list hB
  obtain ⟨⟨cls, dd, data, sl⟩, n, ho, hc, _, hd⟩ := p1
  obtain ⟨⟨cls2, dd2, data2, sl2⟩, n2, ho2, hc2, _, hd2⟩ := p2
  simp only at hc hd hc2 hd2
  subst hc hd hc2 hd2
  have l1 := r.length
  have l2 := r2.length
  have ea : its.toArray ++ its2.toArray = (its ++ its2).toArray := by simp
  refine PySem.concat_meets ⟨_, ho, rfl⟩ ⟨_, ho2, rfl⟩ noFill_list_add seq_list_add PySem.F.slot_list_add PySem.F.entry_list_add (PySem.F.args_list_add_2 _ _) (list_addW l b its.toArray its2.toArray n n2 dd dd2 sl sl2 (by simp only [List.size_toArray]; omega)) ⟨ho, ho2, ?_⟩
  rw [ea]
  exact ⟨.ref _, _, I.lnew (t' := s.toks) (r.append r2) (by rw [List.length_append]; omega), rfl, q _ I.fresh⟩
theorem op_repR : OpR X (binaryOp .Mult) (fun x y H Q => ∃ l k xs, x = .ref l ∧ y = .int k ∧ SqL X.K H l xs ∧ -(2 ^ 63) ≤ k ∧ k < 2 ^ 63 ∧ xs.length * k.toNat ≤ sizeLine ∧ ∀ p, H p = none → Q (.ref p) (upd H p (.lst (List.replicate k.toNat xs).flatten))) := by
  intro pins s σ H x y v u Q I rx ry h
  obtain ⟨l, k, xs, rfl, rfl, hH, h1, h2, hz, q⟩ := h
  cases rx
  obtain ⟨t, rfl⟩ := ry
  obtain ⟨its, r, p1, _⟩ := I.list hH
  obtain ⟨⟨cls, dd, data, sl⟩, n, e, hc, _, hd⟩ := p1
  simp only at hc hd
  subst hc hd
  have hl := r.length
  have hlen : its.toArray.size * k.toNat ≤ sizeLine := by rw [List.size_toArray, ← hl]; exact hz
  have hcap : ¬ its.toArray.size * k.toNat > (2 ^ 63 - 1) / 8 := by
    have : (sizeLine : Nat) ≤ (2 ^ 63 - 1) / 8 := by decide
    omega
  have hfit : ¬ (!Builtin.List.listFitsIndex k) = true := by
    rw [fitsIndex_both h1 h2]
    exact Bool.false_ne_true
  have hlong : ¬ Builtin.List.listTooLong (its.toArray.size * k.toNat) = true := by
    rw [notLongL hlen]
    exact Bool.false_ne_true
  have hnew : List.foldl (fun x1 x2 => x1 ++ x2) #[] (List.replicate (if its.toArray.isEmpty = true then 0 else k.toNat) its.toArray) = (List.replicate k.toNat its).flatten.toArray := by
    have f0 : ∀ m : Nat, List.foldl (fun x1 x2 => x1 ++ x2) #[] (List.replicate m its.toArray) = (List.replicate m its).flatten.toArray := fun m => by
      have := foldl_rep its m []
      rw [List.nil_append] at this
      exact this
    rw [f0]
    cases its with
    | nil => simp
    | cons a r' => rw [if_neg (by simp)]
  refine wpAny_binaryOp_repeat_ref (T := "list") (U := "int") (by decide) ⟨_, e, rfl⟩ (fun s' => typeIs_int s' k t) noFill_list_mul F.fills_int_mul F.slot_int_rmul repeat_list F.slot_int_index.lookup
    (call_meets F.slot_int_rmul (typeIs_int s k t) F.entry_int_rmul (F.args_int_rmul_2 _ _) (lm_int_rmul_list_any k t l its.toArray n dd sl)
      ⟨e, rfl, ⟨_, e, rfl⟩, call_meets F.slot_list_mul ⟨_, e, rfl⟩ F.entry_list_mul (F.args_list_mul_2 _ _) (lm_list_mul_any l its.toArray n dd sl k t hfit hcap hlong) ⟨e, ?_⟩⟩)
  rw [hnew]
  exact ⟨.ref _, _, I.lnew (t' := s.toks) (r.rep k.toNat) (by rw [PyProof.Rows.lm_len_rep_flat, Nat.mul_comm]; exact hz), rfl, q _ I.fresh⟩

theorem same_refl (H : Hp) : Same H H := fun _ _ h => h
theorem pow63 {n : Nat} (h : n < 2 ^ 63) : n.log2 < 63 := PySem.Flt.log2_lt_of (by decide) h
/-- a op b -/
theorem op_bin (o : O2) : OpR X (binaryOp (astO o)) (rDD (su X) (bin2 o)) := by
  intro pins s σ' H x y v u Q I rx ry h
  obtain ⟨G, ρ, σ, a, b, d, own, e, R, ra, rb, q⟩ := h
  have fin : ∀ {k : Int}, d = .int k → own = false → Q (.int k) H := fun {k} e1 e2 => q _ H (same_refl H) (by subst e1; subst e2; exact R.val rfl)
  cases o with
  | add =>
    cases a with
    | int i =>
      cases b with
      | int j =>
        cases e
        cases rv_int ra; cases rv_int rb
        exact op_add pins s σ' H _ _ v u Q I rx ry ⟨i, j, rfl, rfl, fin rfl rfl⟩
      | _ => cases e
    | tuple xs =>
      cases b with
      | tuple ys =>
        simp only [bin2] at e
        split at e
        · rename_i hl
          cases e
          obtain ⟨p, us, rfl, hp, r1⟩ := rv_tup ra
          obtain ⟨p2, ws, rfl, hp2, r2⟩ := rv_tup rb
          refine op_catA pins s σ' H _ _ v u Q I rx ry ⟨p, p2, us, ws, rfl, rfl, hp, hp2, by rw [← r1.length, ← r2.length, ← line_eq]; exact hl, fun z => ?_, fun z z2 => ?_, fun z z2 t ht => ?_⟩
          · have : xs = [] := r1.nil_iff.mp z
            subst this
            refine q _ H (same_refl H) (R.val ?_)
            rcases rb with rb | ⟨_, _, c⟩
            · exact rb
            · exact c.elim
          · have : ys = [] := r2.nil_iff.mp z2
            subst this
            refine q _ H (same_refl H) (R.val ?_)
            rw [List.append_nil]
            rcases ra with ra | ⟨_, _, c⟩
            · exact ra
            · exact c.elim
          · exact q _ _ (same_upd ht) (R.newTup ht (r1.append r2))
        · cases e
      | _ => cases e
    | list xs =>
      cases b with
      | list ys =>
        simp only [bin2] at e
        split at e
        · rename_i hl
          cases e
          obtain ⟨p, us, rfl, hp, r1⟩ := rv_lst ra
          obtain ⟨p2, ws, rfl, hp2, r2⟩ := rv_lst rb
          exact op_catR pins s σ' H _ _ v u Q I rx ry ⟨p, p2, us, ws, rfl, rfl, hp, hp2, by rw [← r1.length, ← r2.length, ← line_eq]; exact hl, fun t ht => q _ _ (same_upd ht) (R.newLst ht (r1.append r2))⟩
        · cases e
      | _ => cases e
    | str i =>
      cases b with
      | str j =>
        simp only [bin2] at e
        split at e
        · rename_i hl
          cases e
          cases rv_str ra; cases rv_str rb
          exact op_add_str pins s σ' H _ _ v u Q I rx ry ⟨i, j, rfl, rfl, by rw [← line_eq]; exact hl, q _ H (same_refl H) (R.val rfl)⟩
        · cases e
      | _ => cases e
    | _ => cases b <;> cases e
  | sub =>
    cases a with
    | int i =>
      cases b with
      | int j =>
        cases e
        cases rv_int ra; cases rv_int rb
        exact op_sub pins s σ' H _ _ v u Q I rx ry ⟨i, j, rfl, rfl, fin rfl rfl⟩
      | _ => cases e
    | _ => cases b <;> cases e
  | mul =>
    cases a with
    | int i =>
      cases b with
      | int j =>
        simp only [bin2] at e
        split at e
        · rename_i hk
          cases e
          cases rv_int ra; cases rv_int rb
          unfold okMul at hk
          rw [Bool.or_eq_true, Bool.or_eq_true, Bool.and_eq_true, decide_eq_true_eq, decide_eq_true_eq, decide_eq_true_eq, decide_eq_true_eq] at hk
          rcases hk with (hk | hk) | hk
          · exact op_mul pins s σ' H _ _ v u Q I rx ry ⟨i, j, rfl, rfl, .inl (by omega), fin rfl rfl⟩
          · exact op_mul pins s σ' H _ _ v u Q I rx ry ⟨i, j, rfl, rfl, .inr (by omega), fin rfl rfl⟩
          · exact op_mulW pins s σ' H _ _ v u Q I rx ry ⟨i, j, rfl, rfl, wide_mul hk.1 hk.2 (by decide) (by decide) (by decide), fin rfl rfl⟩
        · cases e
      | _ => cases e
    | list xs =>
      cases b with
      | int j =>
        simp only [bin2] at e
        split at e
        · rename_i hl
          cases e
          obtain ⟨p, us, rfl, hp, r1⟩ := rv_lst ra
          cases rv_int rb
          exact op_repR pins s σ' H _ _ v u Q I rx ry ⟨p, j, us, rfl, rfl, hp, by omega, by omega, by rw [← r1.length, ← line_eq]; exact hl.2.2, fun t ht => q _ _ (same_upd ht) (R.newLst ht (r1.rep _))⟩
        · cases e
      | _ => cases e
    | tuple xs =>
      cases b with
      | int j =>
        simp only [bin2] at e
        split at e
        · rename_i hl
          cases e
          obtain ⟨p, us, rfl, hp, r1⟩ := rv_tup ra
          cases rv_int rb
          exact op_repT pins s σ' H _ _ v u Q I rx ry ⟨p, j, us, rfl, rfl, hp, fun z => hl.1 (r1.nil_iff.mp z), hl.2.1, hl.2.2.1, by rw [← r1.length]; exact hl.2.2.2, fun t ht => q _ _ (same_upd ht) (R.newTup ht (r1.rep _))⟩
        · cases e
      | _ => cases e
    | _ => cases b <;> cases e
  | fdiv =>
    cases a with
    | int i =>
      cases b with
      | int j =>
        simp only [bin2] at e
        split at e
        · rename_i hk
          cases e
          cases rv_int ra; cases rv_int rb
          exact op_fdivW pins s σ' H _ _ v u Q I rx ry ⟨i, j, rfl, rfl, wide_div (b := 8000) hk.1 (by have := hk.1; have := hk.2; omega) (by decide) (by decide), fin rfl rfl⟩
        · cases e
      | _ => cases e
    | _ => cases b <;> cases e
  | mod =>
    cases a with
    | int i =>
      cases b with
      | int j =>
        simp only [bin2] at e
        split at e
        · rename_i hk
          cases e
          cases rv_int ra; cases rv_int rb
          exact op_mod pins s σ' H _ _ v u Q I rx ry ⟨i, j, rfl, rfl, hk, fin rfl rfl⟩
        · cases e
      | _ => cases e
    | _ => cases b <;> cases e
  | pow =>
    cases a with
    | int i =>
      cases b with
      | int j =>
        simp only [bin2] at e
        split at e
        · rename_i hk
          cases e
          cases rv_int ra; cases rv_int rb
          exact op_pow pins s σ' H _ _ v u Q I rx ry ⟨i, j, rfl, rfl, ⟨hk.1, by omega, by have := hk.2.2; omega⟩, fin rfl rfl⟩
        · cases e
      | _ => cases e
    | _ => cases b <;> cases e
  | shl =>
    cases a with
    | int i =>
      cases b with
      | int j =>
        simp only [bin2] at e
        split at e
        · rename_i hk
          cases e
          cases rv_int ra; cases rv_int rb
          exact op_shl pins s σ' H _ _ v u Q I rx ry ⟨i, j, rfl, rfl, ⟨hk.1, by omega, by have := hk.2.2; omega⟩, fin rfl rfl⟩
        · cases e
      | _ => cases e
    | _ => cases b <;> cases e
  | shr =>
    cases a with
    | int i =>
      cases b with
      | int j =>
        simp only [bin2] at e
        split at e
        · rename_i hk
          cases e
          cases rv_int ra; cases rv_int rb
          exact op_shr pins s σ' H _ _ v u Q I rx ry ⟨i, j, rfl, rfl, hk.1, fin rfl rfl⟩
        · cases e
      | _ => cases e
    | _ => cases b <;> cases e
  | band =>
    cases a with
    | int i =>
      cases b with
      | int j =>
        cases e
        cases rv_int ra; cases rv_int rb
        exact op_and pins s σ' H _ _ v u Q I rx ry ⟨i, j, rfl, rfl, fin rfl rfl⟩
      | _ => cases e
    | _ => cases b <;> cases e
  | bor =>
    cases a with
    | int i =>
      cases b with
      | int j =>
        cases e
        cases rv_int ra; cases rv_int rb
        exact op_or pins s σ' H _ _ v u Q I rx ry ⟨i, j, rfl, rfl, fin rfl rfl⟩
      | _ => cases e
    | _ => cases b <;> cases e
  | bxor =>
    cases a with
    | int i =>
      cases b with
      | int j =>
        cases e
        cases rv_int ra; cases rv_int rb
        exact op_xor pins s σ' H _ _ v u Q I rx ry ⟨i, j, rfl, rfl, fin rfl rfl⟩
      | _ => cases e
    | _ => cases b <;> cases e
end
end LT
end
section
set_option linter.all false
set_option maxRecDepth 100000
/-! Data read off the heap; dicts by data. -/
namespace LT
open PySem PySem.Spec PyProof.Rows L2

section
variable {X : Cx} {pins : List (Addr × Obj)} {σ' : L2.St} {H : Hp} {s : Shared} {O : Addr → Prop}
mutual
theorem Rp.reads (I : Inv X pins σ' H s) : ∀ (d : D) (v : V) (u : Value), d.plain = true → Rp (su X) H O d v → RelV v u → ∃ as, Reads s.heap u d as
  | .none, _, _, _, h, r => by
    cases h; cases r
    exact ⟨_, Reads.none⟩
  | .bool b, _, _, _, h, r => by
    cases h; cases r
    exact ⟨_, Reads.bool b⟩
  | .int i, _, _, _, h, r => by
    cases h
    obtain ⟨t, rfl⟩ := r
    exact ⟨_, Reads.int i t⟩
  | .str x, _, _, _, h, r => by
    cases h
    obtain ⟨t, rfl⟩ := r
    exact ⟨_, Reads.str x t⟩
  | .tuple ds, _, _, p, h, r => by
    obtain ⟨a, xs, rfl, q, hl⟩ := h
    cases r
    have hs : SqT X.K H a xs := by
      rcases q with ⟨q, _⟩ | q
      · exact .inl q
      · exact q.tup
    obtain ⟨its, rv, ⟨o, ho, hc, n, hd⟩, _⟩ := I.tuple hs
    obtain ⟨as, hr⟩ := RpL.reads I ds xs its p hl rv
    exact ⟨_, Reads.tuple ho hc hd hr⟩
  | .list ds, _, _, p, h, r => by
    obtain ⟨a, xs, rfl, q, hl⟩ := h
    cases r
    have hs : SqL X.K H a xs := by
      rcases q with ⟨q, _⟩ | q
      · exact .inl q
      · exact q.lst
    obtain ⟨its, rv, ⟨o, n, ho, hc, _, hd⟩, _⟩ := I.list hs
    obtain ⟨as, hr⟩ := RpL.reads I ds xs its p hl rv
    exact ⟨_, Reads.list ho hc hd hr⟩
  | .dict _, _, _, p, _, _ => by cases p
termination_by structural d => d
theorem RpL.reads (I : Inv X pins σ' H s) : ∀ (ds : List D) (vs : List V) (us : List Value), PyData.plainAll ds = true → RpL (su X) H O ds vs → Vals vs us → ∃ as, ReadsAll s.heap us ds as
  | [], _, _, _, h, r => by
    cases h; cases r
    exact ⟨_, ReadsAll.nil⟩
  | d :: ds, _, _, p, h, r => by
    obtain ⟨x, xr, rfl, h1, h2⟩ := h
    have p' : (d.plain && PyData.plainAll ds) = true := p
    rw [Bool.and_eq_true] at p'
    cases r with
    | cons r1 r2 =>
      obtain ⟨as, q1⟩ := Rp.reads I d _ _ p'.1 h1 r1
      obtain ⟨bs, q2⟩ := RpL.reads I ds _ _ p'.2 h2 r2
      exact ⟨_, ReadsAll.cons q1 q2⟩
termination_by structural ds => ds
end
theorem Rv.reads (I : Inv X pins σ' H s) {d : D} {v : V} {u : Value} (p : d.plain = true) (h : Rv (su X) H O d v) (r : RelV v u) : ∃ as, Reads s.heap u d as := by
  rcases h with h | ⟨a, rfl, c⟩
  · exact Rp.reads I d v u p h r
  · cases d with
    | list ds =>
      obtain ⟨xs, q, hl⟩ := c
      cases r
      obtain ⟨its, rv, ⟨o, n, ho, hc, _, hd⟩, _⟩ := I.list (.inl q)
      obtain ⟨as, hr⟩ := RpL.reads I ds xs its p hl rv
      exact ⟨_, Reads.list ho hc hd hr⟩
    | dict _ => cases p
    | _ => exact c.elim
end

/-! ### keys -/
mutual
theorem eqv_toNK : ∀ (a b : D) (m n : NestedKey), toNK a = some m → toNK b = some n → PyData.eqv a b = NestedKey.beq m n
  | .none, b, m, n, ha, hb => by
    cases ha
    cases b with
    | tuple ds =>
      unfold toNK at hb
      cases h : toNKs ds with
      | none => rw [h] at hb; cases hb
      | some ks => rw [h] at hb; cases hb; rfl
    | _ => cases hb <;> rfl
  | .bool x, b, m, n, ha, hb => by
    cases ha
    cases b with
    | tuple ds =>
      unfold toNK at hb
      cases h : toNKs ds with
      | none => rw [h] at hb; cases hb
      | some ks => rw [h] at hb; cases hb; rfl
    | none => cases hb; rfl
    | bool y =>
      cases hb
      cases x <;> cases y <;> rfl
    | int j =>
      cases hb
      show ((if x = true then 1 else 0 : Int) == j) = decide ((if x = true then 1 else 0 : Int) = j)
      exact Bool.beq_eq_decide_eq _ _
    | str y => cases hb; rfl
    | list _ => cases hb
    | dict _ => cases hb
  | .int i, b, m, n, ha, hb => by
    cases ha
    cases b with
    | tuple ds =>
      unfold toNK at hb
      cases h : toNKs ds with
      | none => rw [h] at hb; cases hb
      | some ks => rw [h] at hb; cases hb; rfl
    | none => cases hb; rfl
    | bool y =>
      cases hb
      show (i == (if y = true then 1 else 0 : Int)) = decide (i = (if y = true then 1 else 0 : Int))
      exact Bool.beq_eq_decide_eq _ _
    | int j =>
      cases hb
      show (i == j) = decide (i = j)
      exact Bool.beq_eq_decide_eq _ _
    | str y => cases hb; rfl
    | list _ => cases hb
    | dict _ => cases hb
  | .str x, b, m, n, ha, hb => by
    cases ha
    cases b with
    | tuple ds =>
      unfold toNK at hb
      cases h : toNKs ds with
      | none => rw [h] at hb; cases hb
      | some ks => rw [h] at hb; cases hb; rfl
    | str y =>
      cases hb
      show (x == y) = decide (x = y)
      rw [Bool.eq_iff_iff, beq_iff_eq, decide_eq_true_eq]
    | none => cases hb; rfl
    | bool y => cases hb; rfl
    | int j => cases hb; rfl
    | list _ => cases hb
    | dict _ => cases hb
  | .tuple xs, b, m, n, ha, hb => by
    unfold toNK at ha
    cases h : toNKs xs with
    | none => rw [h] at ha; cases ha
    | some ks =>
      rw [h] at ha; cases ha
      cases b with
      | tuple ds =>
        unfold toNK at hb
        cases h2 : toNKs ds with
        | none => rw [h2] at hb; cases hb
        | some ks2 =>
          rw [h2] at hb; cases hb
          show PyData.eqvAll xs ds = NestedKey.beqAll ks ks2
          exact eqv_toNKs xs ds ks ks2 h h2
      | none => cases hb; rfl
      | bool y => cases hb; rfl
      | int j => cases hb; rfl
      | str y => cases hb; rfl
      | list _ => cases hb
      | dict _ => cases hb
  | .list _, _, _, _, ha, _ => by cases ha
  | .dict _, _, _, _, ha, _ => by cases ha
termination_by structural a => a
theorem eqv_toNKs : ∀ (xs ys : List D) (ms ns : List NestedKey), toNKs xs = some ms → toNKs ys = some ns → PyData.eqvAll xs ys = NestedKey.beqAll ms ns
  | [], ys, ms, ns, ha, hb => by
    cases ha
    cases ys with
    | nil => cases hb; rfl
    | cons y ys =>
      unfold toNKs at hb
      split at hb
      · cases hb; rfl
      · cases hb
  | x :: xs, ys, ms, ns, ha, hb => by
    unfold toNKs at ha
    split at ha
    · rename_i k ks h1 h2
      cases ha
      cases ys with
      | nil => cases hb; rfl
      | cons y ys =>
        unfold toNKs at hb
        split at hb
        · rename_i k' ks' h3 h4
          cases hb
          show (PyData.eqv x y && PyData.eqvAll xs ys) = (NestedKey.beq k k' && NestedKey.beqAll ks ks')
          rw [eqv_toNK x y k k' h1 h3, eqv_toNKs xs ys ks ks' h2 h4]
        · cases hb
    · cases ha
termination_by structural xs => xs
end
theorem eqv_key {a b : D} {m n : NestedKey} (ha : toNK a = some m) (hb : toNK b = some n) : PyData.eqv a b = decide (m = n) := by
  rw [eqv_toNK a b m n ha hb, NestedKey.decide_eq]
mutual
theorem depth_toNK : ∀ (d : D) (n : NestedKey), toNK d = some n → n.depth = d.depth
  | .none, _, h => by cases h; rfl
  | .bool _, _, h => by cases h; rfl
  | .int _, _, h => by cases h; rfl
  | .str _, _, h => by cases h; rfl
  | .tuple xs, _, h => by
    unfold toNK at h
    cases e : toNKs xs with
    | none => rw [e] at h; cases h
    | some ks =>
      rw [e] at h; cases h
      show NestedKey.depthAll ks + 1 = PyData.depthAll xs + 1
      rw [depth_toNKs xs ks e]
  | .list _, _, h => by cases h
  | .dict _, _, h => by cases h
termination_by structural d => d
theorem depth_toNKs : ∀ (ds : List D) (ns : List NestedKey), toNKs ds = some ns → NestedKey.depthAll ns = PyData.depthAll ds
  | [], _, h => by cases h; rfl
  | d :: ds, _, h => by
    unfold toNKs at h
    split at h
    · rename_i k ks h1 h2
      cases h
      show max k.depth (NestedKey.depthAll ks) = max d.depth (PyData.depthAll ds)
      rw [depth_toNK d k h1, depth_toNKs ds ks h2]
    · cases h
termination_by structural ds => ds
end
mutual
theorem toNK_some : ∀ (d : D), keyable d = true → ∃ n, toNK d = some n
  | .none, _ => ⟨_, rfl⟩
  | .bool _, _ => ⟨_, rfl⟩
  | .int _, _ => ⟨_, rfl⟩
  | .str _, _ => ⟨_, rfl⟩
  | .tuple xs, h => by
    obtain ⟨ns, e⟩ := toNKs_some xs h
    exact ⟨.tup ns, by unfold toNK; rw [e]; rfl⟩
  | .list _, h => by cases h
  | .dict _, h => by cases h
termination_by structural d => d
theorem toNKs_some : ∀ (ds : List D), keyables ds = true → ∃ n, toNKs ds = some n
  | [], _ => ⟨_, rfl⟩
  | d :: ds, h => by
    have h' : (keyable d && keyables ds) = true := h
    rw [Bool.and_eq_true] at h'
    obtain ⟨n, e⟩ := toNK_some d h'.1
    obtain ⟨ns, e2⟩ := toNKs_some ds h'.2
    exact ⟨n :: ns, by unfold toNKs; rw [e, e2]⟩
termination_by structural ds => ds
end
section
variable {X : Cx} {pins : List (Addr × Obj)} {σ' : L2.St} {H : Hp} {s : Shared} {O : Addr → Prop}
mutual
theorem Rp.nested (I : Inv X pins σ' H s) : ∀ (d : D) (n : NestedKey) (v : V) (u : Value), toNK d = some n → Rp (su X) H O d v → RelV v u → NestedIs s.heap n u
  | .none, _, _, _, e, h, r => by cases e; cases h; cases r; exact .none
  | .bool b, _, _, _, e, h, r => by cases e; cases h; cases r; exact .bool rfl
  | .int i, _, _, _, e, h, r => by cases e; cases h; obtain ⟨t, rfl⟩ := r; exact .int i t
  | .str x, _, _, _, e, h, r => by cases e; cases h; obtain ⟨t, rfl⟩ := r; exact .text x t
  | .tuple ds, _, _, _, e, h, r => by
    unfold toNK at e
    cases e2 : toNKs ds with
    | none => rw [e2] at e; cases e
    | some ns =>
      rw [e2] at e; cases e
      obtain ⟨a, xs, rfl, q, hl⟩ := h
      cases r
      have hs : SqT X.K H a xs := by
        rcases q with ⟨q, _⟩ | q
        · exact .inl q
        · exact q.tup
      obtain ⟨its, rv, ⟨o, ho, hc, n, hd⟩, _⟩ := I.tuple hs
      exact .tup ho hc hd (RpL.nested I ds ns xs its e2 hl rv)
  | .list _, _, _, _, e, _, _ => by cases e
  | .dict _, _, _, _, e, _, _ => by cases e
termination_by structural d => d
theorem RpL.nested (I : Inv X pins σ' H s) : ∀ (ds : List D) (ns : List NestedKey) (vs : List V) (us : List Value), toNKs ds = some ns → RpL (su X) H O ds vs → Vals vs us → NestedAll s.heap ns us
  | [], _, _, _, e, h, r => by cases e; cases h; cases r; exact .nil
  | d :: ds, _, _, _, e, h, r => by
    unfold toNKs at e
    split at e
    · rename_i k ks h1 h2
      cases e
      obtain ⟨x, xr, rfl, g1, g2⟩ := h
      cases r with
      | cons r1 r2 => exact .cons (Rp.nested I d k x _ h1 g1 r1) (RpL.nested I ds ks xr _ h2 g2 r2)
    · cases e
termination_by structural ds => ds
end
end

/-! ### dicts -/
section
variable {U : Su} {H : Hp} {O : Addr → Prop}
/-- what a look-up gives -/
def Fnd (U : Su) (H : Hp) (O : Addr → Prop) (d : Option D) (u : Option Value) : Prop := match d, u with
  | none, none => True
  | some d, some u => ∃ v, RelV v u ∧ Rp U H O d v
  | _, _ => False
theorem RpT.find {k : D} {nk : NestedKey} (hk : toNK k = some nk) : ∀ {kvs : List (D × D)} {xs : List (NestedKey × Addr × Value)}, RpT U H O kvs xs → Fnd U H O (dGet kvs k) ((atKey xs nk).map (·.2))
  | [], _, h => by cases h; exact trivial
  | (k', d) :: r, _, h => by
    obtain ⟨n', b, u, v, xr, rfl, h1, h2, h3, h4, h5, h6⟩ := h
    have ih := RpT.find (kvs := r) hk h6
    have e := eqv_key h1 hk
    unfold dGet atKey at *
    simp only [List.find?_cons, e]
    by_cases c : n' = nk
    · simp only [decide_eq_true c]
      exact ⟨v, h4, h5⟩
    · simp only [decide_eq_false c]
      exact ih
theorem RpM.toKey_eqv {a b : D} {m n : Key} (ha : toKey a = some m) (hb : toKey b = some n) : PyData.eqv a b = decide (m = n) := by
  cases a with
  | int i =>
    cases ha
    cases b with
    | int j =>
      cases hb
      show (i == j) = _
      rw [Bool.eq_iff_iff, beq_iff_eq, decide_eq_true_eq]
      exact ⟨fun e => by rw [e], fun e => Sum.inl.inj e⟩
    | str y =>
      cases hb
      exact (decide_eq_false (fun e => nomatch e)).symm
    | _ => cases hb
  | str x =>
    cases ha
    cases b with
    | str y =>
      cases hb
      show (x == y) = _
      rw [Bool.eq_iff_iff, beq_iff_eq, decide_eq_true_eq]
      exact ⟨fun e => by rw [e], fun e => Sum.inr.inj e⟩
    | int j =>
      cases hb
      exact (decide_eq_false (fun e => nomatch e)).symm
    | _ => cases hb
  | _ => cases ha
theorem RpM.find {k : D} {ky : Key} (hk : toKey k = some ky) : ∀ {kvs : List (D × D)} {ys : List (Key × Value)}, RpM U H O kvs ys → Fnd U H O (dGet kvs k) (valueAt ys ky)
  | [], _, h => by cases h; exact trivial
  | (k', d) :: r, _, h => by
    obtain ⟨n', u, v, yr, rfl, h1, h4, h5, h6⟩ := h
    have ih := RpM.find (kvs := r) hk h6
    have e := RpM.toKey_eqv h1 hk
    unfold dGet valueAt at *
    simp only [List.find?_cons, e]
    by_cases c : n' = ky
    · simp only [decide_eq_true c]
      exact ⟨v, h4, h5⟩
    · simp only [decide_eq_false c]
      exact ih
theorem objTag_isObj {kvs : List (D × D)} : isObj kvs = (objTag kvs).isSome := by
  cases kvs with
  | nil => rfl
  | cons p r =>
    obtain ⟨k, d⟩ := p
    cases k <;> first | rfl | (cases d <;> rfl)
theorem kKind_true {k : D} (h : kKind k = some true) : ∃ n, toNK k = some n ∧ n.depth ≤ 8 ∧ ∃ ds, k = .tuple ds := by
  cases k with
  | tuple ds =>
    unfold kKind at h
    simp only at h
    split at h
    · rename_i q
      rw [Bool.and_eq_true, decide_eq_true_eq] at q
      obtain ⟨n, e⟩ := toNK_some (.tuple ds) q.1
      exact ⟨n, e, by rw [depth_toNK _ _ e]; exact q.2, ds, rfl⟩
    · cases h
  | _ => cases h
theorem kKind_false {k : D} (h : kKind k = some false) : ∃ n, toKey k = some n := by
  cases k with
  | tuple ds =>
    unfold kKind at h
    simp only at h
    split at h <;> cases h
  | int i => exact ⟨_, rfl⟩
  | str i => exact ⟨_, rfl⟩
  | _ => cases h
theorem kKind_of_toKey {k : D} {n : Key} (h : toKey k = some n) : kKind k = some false := by
  cases k with
  | int i => rfl
  | str i => rfl
  | _ => cases h
theorem toNK_tup {b : Addr} {k : D} {n : NestedKey} (h : toNK k = some n) (r : Rp U H O k (.ref b)) : ∃ ds, k = .tuple ds := by
  cases k with
  | tuple ds => exact ⟨ds, rfl⟩
  | none => cases r
  | bool _ => cases r
  | int _ => cases r
  | str _ => cases r
  | list _ => cases h
  | dict _ => cases h
end
section
variable {X : Cx} {pins : List (Addr × Obj)} {σ' : L2.St} {H : Hp} {s : Shared} {O : Addr → Prop} {a : Addr} {kvs : List (D × D)}
theorem phiT_nil {U : Su} {h : Heap} (p : phiT U a [] h) : h.DictOf (mixKind U.P U.w) a [] := by
  obtain ⟨o, es, ep, h1, h2, h3, h4⟩ := p
  have : es = #[] := by
    apply Array.toList_inj.mp
    simpa using h4
  subst this
  exact ⟨o, #[], ep, h1, h2, h3, fun e he => absurd he (by simp), .nil, List.nodup_nil⟩
theorem phiM_nil {U : Su} {h : Heap} (p : phiM U a [] h) : h.DictOfH (nestedKind U.P U.w) a [] := by
  obtain ⟨o, es, ep, h1, h2, h3, h4, h5, h6⟩ := p
  have : es.toList = [] := by
    cases e : es.toList with
    | nil => rfl
    | cons x r => rw [e] at h5; cases h5
  exact ⟨o, es, ep, h1, h2, h3, this, fun x hx => (List.not_mem_nil hx).elim, List.nodup_nil⟩
theorem ext_phi (I : Inv X pins σ' H s) {φ : Heap → Prop} (e : H a = some (.ext φ)) : φ s.heap := (show φ s.heap ∧ _ from I.hok a _ e).1
theorem phiT_of (I : Inv X pins σ' H s) {xs : List (NestedKey × Addr × Value)} (e : DT (su X) H a xs) : phiT (su X) a xs s.heap := let ⟨o, es, ep, h, r⟩ := e; ⟨o, es, ep, ext_phi I h, r⟩
theorem phiM_of (I : Inv X pins σ' H s) {ys : List (Key × Value)} (e : DM (su X) H a ys) : phiM (su X) a ys s.heap := let ⟨o, es, ep, h, r⟩ := e; ⟨o, es, ep, ext_phi I h, r⟩
/-- the dict's keys, known as tuples there -/
theorem RpT.keysIs (I : Inv X pins σ' H s) : ∀ {kvs : List (D × D)} {xs : List (NestedKey × Addr × Value)}, RpT (su X) H O kvs xs → ∀ x ∈ xs, (nestedKind X.prog X.w).is s.heap x.1 x.2.1
  | [], _, h => by cases h; exact fun _ z => nomatch z
  | (k, d) :: r, _, h => by
    obtain ⟨n', b, u, v, xr, rfl, h1, h2, h3, h4, h5, h6⟩ := h
    intro x hx
    rcases List.mem_cons.mp hx with rfl | hx
    · exact ⟨Rp.nested I k n' _ _ h1 h3 rfl, h2⟩
    · exact RpT.keysIs I h6 x hx
/-- a dict whose keys go with k -/
inductive DictSays (X : Cx) (H : Hp) (O : Addr → Prop) (s : Shared) (a : Addr) (kvs : List (D × D)) (k : D) : Prop
  | t (xs : List (NestedKey × Addr × Value)) (nk : NestedKey) : xs.length ≤ sizeLine → (a == sysModules) = false → toNK k = some nk → nk.depth ≤ 8 → RpT (su X) H O kvs xs → s.heap.DictOfH (nestedKind X.prog X.w) a xs → (∃ ds, k = .tuple ds) → DictSays X H O s a kvs k
  | m (ys : List (Key × Value)) (ky : Key) : ys.length ≤ sizeLine → (a == sysModules) = false → toKey k = some ky → RpM (su X) H O kvs ys → s.heap.DictOf (mixKind X.prog X.w) a ys → DictSays X H O s a kvs k
theorem CtD.says (I : Inv X pins σ' H s) (c : CtD (su X) H O kvs a) (no : isObj kvs = false) {k : D} (g : kGo kvs k = true) : DictSays X H O s a kvs k := by
  rw [objTag_isObj] at no
  unfold kGo at g
  rcases c with ⟨_, ⟨xs, ⟨z, hs, nd, e⟩, r⟩ | ⟨ys, ⟨z, hs, e⟩, r⟩⟩ | ⟨c, _, _, _, t, _⟩
  · -- keys that are tuples
    have hp := phiT_of I e
    cases hk : kKind k with
    | none => rw [hk] at g; cases g
    | some b =>
      rw [hk] at g
      cases b with
      | true =>
        obtain ⟨n, e1, e2, e3⟩ := kKind_true hk
        obtain ⟨o, es, ep, h1, h2, h3, h4⟩ := hp
        exact .t xs n z hs e1 e2 r ⟨o, es, ep, h1, h2, h3, h4, r.keysIs I, nd⟩ e3
      | false =>
        cases kvs with
        | cons p r' =>
          obtain ⟨k0, d0⟩ := p
          obtain ⟨n', b, u, v, xr, rfl, h1, h2, h3, h4, h5, h6⟩ := r
          obtain ⟨ds, rfl⟩ := toNK_tup h1 h3
          have g : (kKind (.tuple ds) == some false) = true := g
          rw [beq_iff_eq] at g
          obtain ⟨n, q⟩ := kKind_false g
          cases q
        | nil =>
          have r' : xs = [] := r
          subst r'
          obtain ⟨n, e1⟩ := kKind_false hk
          exact .m [] n z hs e1 rfl (phiT_nil hp)
  · have hp := phiM_of I e
    cases hk : kKind k with
    | none => rw [hk] at g; cases g
    | some b =>
      rw [hk] at g
      cases b with
      | false =>
        obtain ⟨n, e1⟩ := kKind_false hk
        exact .m ys n z hs e1 r hp
      | true =>
        cases kvs with
        | cons p r' =>
          obtain ⟨k0, d0⟩ := p
          obtain ⟨n', u, v, yr, rfl, h1, _⟩ := r
          have g : (kKind k0 == some true) = true := g
          rw [kKind_of_toKey h1] at g
          cases g
        | nil =>
          have r' : ys = [] := r
          subst r'
          obtain ⟨n, e1, e2, e3⟩ := kKind_true hk
          exact .t [] n z hs e1 e2 rfl (phiM_nil hp) e3
  · rw [t] at no; cases no
theorem Fnd.isSome {U : Su} {d : Option D} {u : Option Value} (f : Fnd U H O d u) : d.isSome = u.isSome := by
  cases d <;> cases u <;> first | rfl | exact f.elim
theorem keyIs_of {k : D} {ky : Key} {y : V} {u : Value} (e : toKey k = some ky) (r : Rv (su X) H O k y) (q : RelV y u) : (mixKind X.prog X.w).is ky u = true := by
  cases k with
  | int i => cases e; cases rv_int r; obtain ⟨t, rfl⟩ := q; exact keyIs_int i t
  | str i => cases e; cases rv_str r; obtain ⟨t, rfl⟩ := q; exact keyIs_str i t
  | _ => cases e
theorem nestedIs_of (I : Inv X pins σ' H s) {k : D} {nk : NestedKey} {y : V} {u : Value} (e : toNK k = some nk) (l : nk.depth ≤ 8) (t : ∃ ds, k = .tuple ds) (r : Rv (su X) H O k y) (q : RelV y u) : ∃ b, u = .ref b ∧ (nestedKind X.prog X.w).is s.heap nk b := by
  obtain ⟨ds, rfl⟩ := t
  rcases r with r | ⟨_, _, c⟩
  · have r2 := r
    obtain ⟨b, xs, rfl, _⟩ := r2
    cases q
    exact ⟨b, rfl, Rp.nested I _ nk _ _ e r rfl, l⟩
  · exact c.elim
theorem room_nested {k : Nat} {A : Around} (h : A.units + 64 < cLine) : (nestedKind X.prog X.w).room A.in1 := by
  show A.units + 1 + 8 < cLine
  omega
end
end LT
end
section
set_option linter.all false
set_option maxRecDepth 100000
/-! Comparisons, by values. -/
namespace LT
open PySem PySem.Spec PyProof.Rows L2
def astC : Cm → CmpOp
  | .eq => .Eq | .ne => .NotEq | .lt => .Lt | .le => .LtE | .gt => .Gt | .ge => .GtE | .isin => .In | .notin => .NotIn | .is_ => .Is | .isnot => .IsNot
section
variable {X : Cx} {pins : List (Addr × Obj)} {σ' : L2.St} {H : Hp} {s : Shared} {O : Addr → Prop} {a : Addr} {kvs : List (D × D)} {x y : V} {v u : Value} {d e : D} {r : Bool} {Q : VK}
theorem dict_ints (I : Inv X pins σ' H s) (c : CtD (su X) H O kvs a) (no : isObj kvs = false) (g : kvs.all (fun p => kKind p.1 == some false) = true) :
    (a == sysModules) = false ∧ ∃ ys, s.heap.DictOf (mixKind X.prog X.w) a ys ∧ ys.length = kvs.length := by
  rw [objTag_isObj] at no
  rcases c with ⟨_, ⟨xs, ⟨z, hs, nd, e⟩, r⟩ | ⟨ys, ⟨z, hs, e⟩, r⟩⟩ | ⟨c, _, _, _, t, _⟩
  · have hp := phiT_of I e
    cases kvs with
    | cons p r' =>
      obtain ⟨k0, d0⟩ := p
      obtain ⟨n', b, u, v, xr, rfl, h1, h2, h3, _⟩ := r
      obtain ⟨ds, rfl⟩ := toNK_tup h1 h3
      rw [List.all_cons, Bool.and_eq_true, beq_iff_eq] at g
      obtain ⟨n, q⟩ := kKind_false g.1
      cases q
    | nil =>
      have r' : xs = [] := r
      subst r'
      exact ⟨hs, [], phiT_nil hp, rfl⟩
  · have hp := phiM_of I e
    refine ⟨hs, ys, hp, ?_⟩
    have : ∀ {kvs : List (D × D)} {ys : List (Key × Value)}, RpM (su X) H O kvs ys → ys.length = kvs.length := by
      intro kvs
      induction kvs with
      | nil => intro ys h; cases h; rfl
      | cons p r ih =>
        intro ys h
        obtain ⟨k, d⟩ := p
        obtain ⟨ky, u, v, yr, rfl, _, _, _, h⟩ := h
        simp [ih h]
    exact this r
  · rw [t] at no; cases no
theorem dict_nil (I : Inv X pins σ' H s) (c : CtD (su X) H O [] a) : (a == sysModules) = false ∧ s.heap.DictOf (mixKind X.prog X.w) a [] := by
  obtain ⟨h, ys, hd, hl⟩ := dict_ints I c rfl rfl
  cases ys with
  | nil => exact ⟨h, hd⟩
  | cons _ _ => cases hl
theorem hits_nil {A : Around} {ka : List (Key × Value)} (h : ka.length = ([] : List (Key × Value)).length) : PySem.W.KeqHits A s ([] : List (Key × Value)) ka true := by
  cases ka with
  | nil => exact .nil
  | cons _ _ => cases h
theorem eq_ok (hu : X.A.units + 200 < cLine) (I : Inv X pins σ' H s) (rx : RelV x v) (ry : RelV y u) (ra : Rv (su X) H O d x) (rb : Rv (su X) H O e y) (h : eqD d e = some r) (q : Q (.bl r) H) :
    wpAny (model X.prog X.w) X.A (compareOp .Eq v u) (EP X pins σ' Q) X.xe s := by
  unfold eqD at h
  split at h
  · rename_i c
    cases h
    rw [Bool.and_eq_true, Bool.and_eq_true, Bool.and_eq_true, decide_eq_true_eq, decide_eq_true_eq] at c
    obtain ⟨as, r1⟩ := ra.reads I c.1.1.1 rx
    obtain ⟨bs, r2⟩ := rb.reads I c.1.1.2 ry
    exact PySem.SeqAt.eq_plain r1 r2 c.1.1.1 c.1.1.2 (by have := c.1.2; omega) ⟨.bl _, H, I, rfl, q⟩
  · split at h
    · split at h
      · rename_i kvs _ c
        cases h
        rw [Bool.and_eq_true, Bool.not_eq_true'] at c
        obtain ⟨p, rfl, c1⟩ := rv_dct ra
        obtain ⟨p2, rfl, c2⟩ := rv_dct rb
        obtain ⟨h1, ys, d1, l1⟩ := dict_ints I c1 c.1 c.2
        obtain ⟨h2, d2⟩ := dict_nil I c2
        cases rx; cases ry
        refine PySem.W.keq_eq h1 h2 d1 d2 (by omega) (fun z => hits_nil z) ?_
        refine ⟨.bl _, H, I, ?_, q⟩
        show Value.bool _ = Value.bool _
        rw [Bool.and_true, l1]
        cases kvs <;> rfl
      · cases h
    · cases h
theorem ne_ok (hu : X.A.units + 200 < cLine) (I : Inv X pins σ' H s) (rx : RelV x v) (ry : RelV y u) (ra : Rv (su X) H O d x) (rb : Rv (su X) H O e y) (h : eqD d e = some r) (q : Q (.bl !r) H) :
    wpAny (model X.prog X.w) X.A (compareOp .NotEq v u) (EP X pins σ' Q) X.xe s := by
  unfold eqD at h
  split at h
  · rename_i c
    cases h
    rw [Bool.and_eq_true, Bool.and_eq_true, Bool.and_eq_true, decide_eq_true_eq, decide_eq_true_eq] at c
    obtain ⟨as, r1⟩ := ra.reads I c.1.1.1 rx
    obtain ⟨bs, r2⟩ := rb.reads I c.1.1.2 ry
    exact PySem.SeqAt.ne_plain r1 r2 c.1.1.1 c.1.1.2 (by have := c.1.2; omega) ⟨.bl _, H, I, rfl, q⟩
  · split at h
    · split at h
      · rename_i kvs _ c
        cases h
        rw [Bool.and_eq_true, Bool.not_eq_true'] at c
        obtain ⟨p, rfl, c1⟩ := rv_dct ra
        obtain ⟨p2, rfl, c2⟩ := rv_dct rb
        obtain ⟨h1, ys, d1, l1⟩ := dict_ints I c1 c.1 c.2
        obtain ⟨h2, d2⟩ := dict_nil I c2
        cases rx; cases ry
        refine PySem.W.keq_ne h1 h2 d1 d2 (by omega) (fun z => hits_nil z) ?_
        refine ⟨.bl _, H, I, ?_, q⟩
        show Value.bool _ = Value.bool _
        rw [Bool.and_true, l1]
        cases kvs <;> rfl
      · cases h
    · cases h
theorem lt_parts (h : ltD d e = some r) : PySem.W.alike d e = true ∧ d.depth ≤ 60 ∧ d.plain = true ∧ e.plain = true ∧ d ≠ .none ∧ r = PySem.W.dataLt d e := by
  unfold ltD at h
  split at h
  · rename_i c
    rw [Bool.and_eq_true, Bool.and_eq_true, Bool.and_eq_true, decide_eq_true_eq] at c
    split at h
    · cases h
    · rename_i n
      cases h
      exact ⟨c.1.1.1, c.1.1.2, c.1.2, c.2, fun z => n z, rfl⟩
  · cases h
theorem op_in_dict (hu : X.A.units + 200 < cLine) (I : Inv X pins σ' H s) (rx : RelV x v) (ry : RelV y u) (ra : Rv (su X) H O d x) (c : CtD (su X) H O kvs a) (ey : y = .ref a) (no : isObj kvs = false) (g : kGo kvs d = true) :
    (Q (.bl (dGet kvs d).isSome) H → wpAny (model X.prog X.w) X.A (compareOp .In v u) (EP X pins σ' Q) X.xe s) ∧ (Q (.bl (!(dGet kvs d).isSome)) H → wpAny (model X.prog X.w) X.A (compareOp .NotIn v u) (EP X pins σ' Q) X.xe s) := by
  subst ey
  cases ry
  cases c.says I no g with
  | t xs nk h1 h2 h3 h4 h5 h6 h7 =>
    obtain ⟨b, rfl, hb⟩ := nestedIs_of I h3 h4 h7 ra rx
    have f := (h5.find h3).isSome
    rw [Option.isSome_map] at f
    refine ⟨fun q => ?_, fun q => ?_⟩
    · exact wpAny_in_heap (room_nested (X := X) (k := 0) (by omega)) hb h2 h6 ⟨.bl _, H, I.tok _, rfl, by rw [← f]; exact q⟩
    · exact wpAny_notIn_heap (room_nested (X := X) (k := 0) (by omega)) hb h2 h6 ⟨.bl _, H, I.tok _, rfl, by rw [← f]; exact q⟩
  | m ys ky h1 h2 h3 h4 h5 =>
    have hk := keyIs_of h3 ra rx
    have f := (h4.find h3).isSome
    refine ⟨fun q => ?_, fun q => ?_⟩
    · exact wpAny_in_of hk h2 h5.mapOf ⟨.bl _, H, I.tok _, rfl, by rw [← f]; exact q⟩
    · exact wpAny_notIn_of hk h2 h5.mapOf ⟨.bl _, H, I.tok _, rfl, by rw [← f]; exact q⟩
theorem in_ok (hu : X.A.units + 200 < cLine) (I : Inv X pins σ' H s) (rx : RelV x v) (ry : RelV y u) (ra : Rv (su X) H O d x) (rb : Rv (su X) H O e y) (h : inD d e = some r) :
    (Q (.bl r) H → wpAny (model X.prog X.w) X.A (compareOp .In v u) (EP X pins σ' Q) X.xe s) ∧ (Q (.bl !r) H → wpAny (model X.prog X.w) X.A (compareOp .NotIn v u) (EP X pins σ' Q) X.xe s) := by
  unfold inD at h
  split at h
  · rename_i ds
    split at h
    · rename_i c
      cases h
      rw [Bool.and_eq_true, Bool.and_eq_true, Bool.and_eq_true, decide_eq_true_eq, decide_eq_true_eq] at c
      obtain ⟨as, r1⟩ := ra.reads I c.1.1.1 rx
      obtain ⟨bs, r2⟩ := rb.reads I (d := .tuple ds) c.1.1.2 ry
      exact ⟨fun q => PySem.SeqAt.in_tuple_data r2 r1 c.1.1.2 c.1.1.1 (by have := c.1.2; omega) ⟨.bl _, H, I, rfl, q⟩,
        fun q => PySem.SeqAt.notIn_tuple_data r2 r1 c.1.1.2 c.1.1.1 (by have := c.1.2; omega) ⟨.bl _, H, I, rfl, q⟩⟩
    · cases h
  · rename_i ds
    split at h
    · rename_i c
      cases h
      rw [Bool.and_eq_true, Bool.and_eq_true, Bool.and_eq_true, decide_eq_true_eq, decide_eq_true_eq] at c
      obtain ⟨as, r1⟩ := ra.reads I c.1.1.1 rx
      obtain ⟨bs, r2⟩ := rb.reads I (d := .list ds) c.1.1.2 ry
      exact ⟨fun q => PySem.SeqAt.in_list_data r2 r1 c.1.1.2 c.1.1.1 (by have := c.1.2; omega) ⟨.bl _, H, I, rfl, q⟩,
        fun q => PySem.SeqAt.notIn_list_data r2 r1 c.1.1.2 c.1.1.1 (by have := c.1.2; omega) ⟨.bl _, H, I, rfl, q⟩⟩
    · cases h
  · rename_i kvs
    split at h
    · cases h
    · rename_i no
      split at h
      · rename_i g
        cases h
        obtain ⟨p, ep, c⟩ := rv_dct rb
        exact op_in_dict hu I rx ry ra c ep (by simpa using no) g
      · cases h
  · rename_i z
    split at h
    · rename_i c
      split at h
      · rename_i cc hl
        cases h
        cases rv_str ra; cases rv_str rb
        obtain ⟨⟨l⟩⟩ := c
        cases (show l = [cc] from hl)
        exact ⟨fun q => op_in_sign pins s σ' H _ _ v u Q I rx ry ⟨cc, z, rfl, rfl, q⟩, fun q => op_notIn_sign pins s σ' H _ _ v u Q I rx ry ⟨cc, z, rfl, rfl, q⟩⟩
      · cases h
    · cases h
  · cases h
theorem is_ok (I : Inv X pins σ' H s) (rx : RelV x v) (ry : RelV y u) (ra : Rv (su X) H O d x) (rb : Rv (su X) H O e y) (h : isD d e = some r) :
    (Q (.bl r) H → wpAny (model X.prog X.w) X.A (compareOp .Is v u) (EP X pins σ' Q) X.xe s) ∧ (Q (.bl !r) H → wpAny (model X.prog X.w) X.A (compareOp .IsNot v u) (EP X pins σ' Q) X.xe s) := by
  have non : ∀ {k : Bool}, e = .none → decide (x = V.non) = k → r = k → (Q (.bl r) H → wpAny (model X.prog X.w) X.A (compareOp .Is v u) (EP X pins σ' Q) X.xe s) ∧ (Q (.bl !r) H → wpAny (model X.prog X.w) X.A (compareOp .IsNot v u) (EP X pins σ' Q) X.xe s) := fun {k} e1 e2 e3 => by
    subst e1
    cases rv_non rb
    refine ⟨fun q => op_isN pins s σ' H x .non v u Q I rx ry ⟨rfl, ?_⟩, fun q => op_notN pins s σ' H x .non v u Q I rx ry ⟨rfl, ?_⟩⟩
    · rw [e2, ← e3]; exact q
    · rw [e2, ← e3]; exact q
  unfold isD at h
  split at h
  · cases h
    cases rv_non ra
    exact non rfl rfl rfl
  · rename_i p q
    cases h
    cases rv_bl ra; cases rv_bl rb
    cases rx; cases ry
    exact ⟨fun q => is_bool ⟨.bl _, H, I, rfl, q⟩, fun q' => isnot_bool ⟨.bl _, H, I, rfl, q'⟩⟩
  · rename_i n1
    cases h
    refine non rfl (decide_eq_false fun z => ?_) rfl
    subst z
    cases d with
    | none => exact n1 rfl
    | bool _ => cases rv_bl ra
    | int _ => cases rv_int ra
    | str _ => cases rv_str ra
    | tuple _ => obtain ⟨_, _, z, _⟩ := rv_tup ra; cases z
    | list _ => obtain ⟨_, _, z, _⟩ := rv_lst ra; cases z
    | dict _ => obtain ⟨_, z, _⟩ := rv_dct ra; cases z
  · cases h
/-- a cmp b -/
theorem op_cmp (hu : X.A.units + 200 < cLine) (c : Cm) : OpR X (compareOp (astC c)) (rDB (su X) (cmpD c)) := by
  intro pins s σ' H x y v u Q I rx ry h
  obtain ⟨G, ρ, σ, a, b, r, e, R, ra, rb, q⟩ := h
  cases c with
  | eq => exact eq_ok hu I rx ry ra rb e q
  | ne =>
    obtain ⟨r', e1, rfl⟩ := Option.map_eq_some_iff.mp (show (eqD a b).map (!·) = some r from e)
    exact ne_ok hu I rx ry ra rb e1 q
  | lt =>
    obtain ⟨h1, h2, h3, h4, h5, rfl⟩ := lt_parts e
    obtain ⟨as, r1⟩ := ra.reads I h3 rx
    obtain ⟨bs, r2⟩ := rb.reads I h4 ry
    exact PySem.W.lt_data r1 r2 h1 h5 (by omega) ⟨.bl _, H, I, rfl, q⟩
  | gt =>
    obtain ⟨h1, h2, h3, h4, h5, rfl⟩ := lt_parts (show ltD b a = some r from e)
    obtain ⟨as, r1⟩ := ra.reads I h4 rx
    obtain ⟨bs, r2⟩ := rb.reads I h3 ry
    exact PySem.W.gt_data r1 r2 (by rw [PySem.W.alike_comm]; exact h1) (PySem.W.ne_none_both h1 h5) (by omega) ⟨.bl _, H, I, rfl, q⟩
  | le =>
    obtain ⟨r', e1, rfl⟩ := Option.map_eq_some_iff.mp (show (ltD b a).map (!·) = some r from e)
    obtain ⟨h1, h2, h3, h4, h5, rfl⟩ := lt_parts e1
    obtain ⟨as, r1⟩ := ra.reads I h4 rx
    obtain ⟨bs, r2⟩ := rb.reads I h3 ry
    exact PySem.W.le_data r1 r2 (by rw [PySem.W.alike_comm]; exact h1) (PySem.W.ne_none_both h1 h5) (by omega) ⟨.bl _, H, I, rfl, q⟩
  | ge =>
    obtain ⟨r', e1, rfl⟩ := Option.map_eq_some_iff.mp (show (ltD a b).map (!·) = some r from e)
    obtain ⟨h1, h2, h3, h4, h5, rfl⟩ := lt_parts e1
    obtain ⟨as, r1⟩ := ra.reads I h3 rx
    obtain ⟨bs, r2⟩ := rb.reads I h4 ry
    exact PySem.W.ge_data r1 r2 h1 h5 (by omega) ⟨.bl _, H, I, rfl, q⟩
  | isin => exact (in_ok hu I rx ry ra rb e).1 q
  | notin =>
    obtain ⟨r', e1, rfl⟩ := Option.map_eq_some_iff.mp (show (inD a b).map (!·) = some r from e)
    exact (in_ok hu I rx ry ra rb e1).2 q
  | is_ => exact (is_ok I rx ry ra rb e).1 q
  | isnot =>
    obtain ⟨r', e1, rfl⟩ := Option.map_eq_some_iff.mp (show (isD a b).map (!·) = some r from e)
    exact (is_ok I rx ry ra rb e1).2 q
end
end LT
end
section
set_option linter.all false
set_option maxRecDepth 100000
/-! Expressions: readings by the small language. -/
namespace LT
open PySem PySem.Spec PyProof.Rows L2
section
variable {U : Su} {G : Gh} {ρ ρ' ρ1 ρ2 ρ3 : Ro} {σ : L2.St} {H H1 H2 H3 : Hp} {h h1 h2 h3 : Hd} {v : V} {x y z d : D} {Γ : Gam} {a b c : Ex}
/-- an expression's reading -/
def tEv (U : Su) (Γ : Gam) (e : Ex) : TE := fun σ H Q => ∃ G ρ h ρ', ev Γ e ρ = some (h, ρ') ∧ Rel U G ρ σ H ∧ ∀ v H', Fr ρ σ H H' → Sb ρ' ρ σ → HdR U G ρ' σ H' h v → Q v H'
/-- .. as a test -/
def tTs (U : Su) (Γ : Gam) (e : Ex) : TT := fun σ H Q => ∃ G ρ b ρ', evB Γ e ρ = some (b, ρ') ∧ Rel U G ρ σ H ∧ ∀ H', Fr ρ σ H H' → Sb ρ' ρ σ → Rel U G ρ' σ H' → Q b H'
/-- values in a row, owned by nobody -/
def tEvs (U : Su) (Γ : Gam) (es : List Ex) : TA := fun σ H Q => ∃ G ρ ds ρ', evs Γ es ρ = some (ds, ρ') ∧ Rel U G ρ σ H ∧ ∀ vs H', Fr ρ σ H H' → Sb ρ' ρ σ → Rel U G ρ' σ H' → RpL U H' (Pr G ρ' σ) ds vs → Q vs H'
theorem gh_mono (G : Gh) (h : Hd) (v : V) : ∀ b, Pr G ρ σ b → Pr (gh G h v) ρ σ b := fun b z => z.imp (gh_O0 G h v b) id
theorem HdR.getG (r : HdR U G ρ σ H h v) (F : Fr ρ σ H H1) (S : Sb ρ' ρ σ) (R : Rel U (gh G h v) ρ' σ H1) (g : h.get ρ' = some x) : Rv U H1 (Pr G ρ' σ) x v := (r.get F S R g).weak (gh_mono G h v)
theorem HdR.get0G (r : HdR U G ρ σ H h v) (g : h.get ρ = some x) : Rv U H (Pr G ρ σ) x v := (r.get0 g).weak (gh_mono G h v)
theorem HdR.ofRp (R : Rel U G ρ σ H) (r : Rp U H (Pr G ρ σ) d v) : HdR U G ρ σ H (.d d false) v := ⟨R, r⟩
/-- a value that goes elsewhere and is owned no more -/
theorem HdR.give {own : Bool} (r : HdR U G ρ σ H h v) (e : LT.esc ρ h = some (d, own, ρ2)) : Rel U G ρ2 σ H ∧ Rp U H (Pr G ρ2 σ) d v ∧ Sb ρ2 ρ σ := by
  obtain ⟨⟨R, val⟩, S⟩ := r.esc e
  cases own with
  | false => exact ⟨R, val, S⟩
  | true =>
    obtain ⟨a, rfl, c, m, n, k⟩ := val
    exact ⟨R.un, (c.move (.mono fun b z => z.imp .inl id) fun _ z => z).rp n, S⟩
/-- one operand -/
theorem one {P : VK} (E : ev Γ a ρ = some (h, ρ1)) (R : Rel U G ρ σ H) (k : ∀ v H', Fr ρ σ H H' → Sb ρ1 ρ σ → HdR U G ρ1 σ H' h v → P v H') : tEv U Γ a σ H P := ⟨G, ρ, h, ρ1, E, R, k⟩
/-- two operands, read when both have come -/
theorem two {P : V → V → Hp → Prop} (E1 : ev Γ a ρ = some (h1, ρ1)) (E2 : ev Γ b ρ1 = some (h2, ρ2)) (g1 : h1.get ρ2 = some x) (g2 : h2.get ρ2 = some y) (R : Rel U G ρ σ H)
    (k : ∀ v1 v2 H', Fr ρ σ H H' → Sb ρ2 ρ σ → Rel U G ρ2 σ H' → Rv U H' (Pr G ρ2 σ) x v1 → Rv U H' (Pr G ρ2 σ) y v2 → P v1 v2 H') :
    tEv U Γ a σ H fun v1 H1 => tEv U Γ b σ H1 fun v2 H2 => P v1 v2 H2 :=
  one E1 R fun v1 H1 F1 S1 r1 => ⟨gh G h1 v1, ρ1, h2, ρ2, E2, r1.rel, fun v2 H2 F2 S2 r2 =>
    k v1 v2 H2 (F1.trans S1 F2) (S2.trans S1) r2.relG.un (r1.getG F2 S2 r2.relG g1) ((r2.get0G g2).weak (gh_mono G h1 v1))⟩
theorem three {P : V → V → V → Hp → Prop} (E1 : ev Γ a ρ = some (h1, ρ1)) (E2 : ev Γ b ρ1 = some (h2, ρ2)) (E3 : ev Γ c ρ2 = some (h3, ρ3)) (g1 : h1.get ρ3 = some x) (g2 : h2.get ρ3 = some y) (g3 : h3.get ρ3 = some z) (R : Rel U G ρ σ H)
    (k : ∀ v1 v2 v3 H', Fr ρ σ H H' → Sb ρ3 ρ σ → Rel U G ρ3 σ H' → Rv U H' (Pr G ρ3 σ) x v1 → Rv U H' (Pr G ρ3 σ) y v2 → Rv U H' (Pr G ρ3 σ) z v3 → P v1 v2 v3 H') :
    tEv U Γ a σ H fun v1 H1 => tEv U Γ b σ H1 fun v2 H2 => tEv U Γ c σ H2 fun v3 H3 => P v1 v2 v3 H3 :=
  one E1 R fun v1 H1 F1 S1 r1 => ⟨gh G h1 v1, ρ1, h2, ρ2, E2, r1.rel, fun v2 H2 F2 S2 r2 => ⟨gh (gh G h1 v1) h2 v2, ρ2, h3, ρ3, E3, r2.rel, fun v3 H3 F3 S3 r3 =>
    k v1 v2 v3 H3 ((F1.trans S1 F2).trans (S2.trans S1) F3) ((S3.trans S2).trans S1) r3.relG.un.un (r1.getG (F2.trans S2 F3) (S3.trans S2) r3.relG.un g1)
      ((r2.getG F3 S3 r3.relG g2).weak (gh_mono G h1 v1)) (((r3.get0G g3).weak (gh_mono _ h2 v2)).weak (gh_mono G h1 v1))⟩⟩
theorem un1_some {f : D → Option (D × Bool)} {e : Option (Hd × Ro)} {r : Hd × Ro} (h : un1 f e = some r) : ∃ h1 ρ1 x d own, e = some (h1, ρ1) ∧ h1.get ρ1 = some x ∧ f x = some (d, own) ∧ r = (.d d own, ρ1) := by
  unfold un1 at h
  cases e with
  | none => cases h
  | some p =>
    obtain ⟨h1, ρ1⟩ := p
    dsimp only at h
    cases g : h1.get ρ1 with
    | none => rw [g] at h; cases h
    | some x =>
      rw [g] at h
      dsimp only at h
      cases q : f x with
      | none => rw [q] at h; cases h
      | some q' =>
        obtain ⟨d, own⟩ := q'
        rw [q] at h
        cases h
        exact ⟨h1, ρ1, x, d, own, rfl, g, q, rfl⟩
theorem bi1_some {f : D → D → Option (D × Bool)} {e : Option (Hd × Ro)} {g : Ro → Option (Hd × Ro)} {r : Hd × Ro} (h : bi1 f e g = some r) :
    ∃ h1 ρ1 h2 ρ2 x y d own, e = some (h1, ρ1) ∧ g ρ1 = some (h2, ρ2) ∧ h1.get ρ2 = some x ∧ h2.get ρ2 = some y ∧ f x y = some (d, own) ∧ r = (.d d own, ρ2) := by
  unfold bi1 at h
  split at h
  · cases h
  · rename_i h1 ρ1
    split at h
    · cases h
    · rename_i h2 ρ2 e2
      split at h
      · rename_i x y g1 g2
        split at h
        · cases h
        · rename_i d own q
          cases h
          exact ⟨h1, ρ1, h2, ρ2, x, y, d, own, rfl, e2, g1, g2, q, rfl⟩
      · cases h
/-- a datum in, a datum out -/
def rD1 (U : Su) (f : D → Option (D × Bool)) : V → Hp → VK → Prop := fun x H Q => ∃ G ρ σ a d own, f a = some (d, own) ∧ Rel U G ρ σ H ∧ Rv U H (Pr G ρ σ) a x ∧ ∀ v H', Same H H' → HdR U G ρ σ H' (.d d own) v → Q v H'
theorem tEv1 {f : D → Option (D × Bool)} {n : Ex} (en : ∀ ρ, ev Γ n ρ = un1 f (ev Γ a ρ)) {Q : VK} (t : tEv U Γ n σ H Q) : tEv U Γ a σ H fun v H1 => rD1 U f v H1 Q := by
  obtain ⟨G, ρ, h, ρ', E, R, k⟩ := t
  obtain ⟨h1, ρ1, x, d, own, E1, g, q, e⟩ := un1_some ((en ρ).symm.trans E)
  cases e
  exact one E1 R fun v H1 F1 S1 r1 => ⟨G, ρ', σ, x, d, own, q, r1.relG, r1.get0G g, fun w H2 s r => k w H2 (F1.and_same s) S1 r⟩
theorem tEv2 {f : D → D → Option (D × Bool)} {n : Ex} (en : ∀ ρ, ev Γ n ρ = bi1 f (ev Γ a ρ) (ev Γ b)) {Q : VK} (t : tEv U Γ n σ H Q) : tOp (rDD U f) (tEv U Γ a) (tEv U Γ b) σ H Q := by
  obtain ⟨G, ρ, h, ρ', E, R, k⟩ := t
  obtain ⟨h1, ρ1, h2, ρ2, x, y, d, own, E1, E2, g1, g2, q, e⟩ := bi1_some ((en ρ).symm.trans E)
  cases e
  exact two E1 E2 g1 g2 R fun v1 v2 H1 F S R2 r1 r2 => ⟨G, ρ', σ, x, y, d, own, q, R2, r1, r2, fun w H2 s r => k w H2 (F.and_same s) S r⟩
theorem bool1_some {o : Option Bool} {d : D} {own : Bool} (h : bool1 o = some (d, own)) : ∃ r, o = some r ∧ d = .bool r ∧ own = false := by
  unfold bool1 at h
  cases o with
  | none => cases h
  | some r => cases h; exact ⟨r, rfl, rfl, rfl⟩
theorem val1_some {o : Option D} {d : D} {own : Bool} (h : val1 o = some (d, own)) : o = some d ∧ own = false := by
  unfold val1 at h
  cases o with
  | none => cases h
  | some r => cases h; exact ⟨rfl, rfl⟩
theorem rDD_bool {f : D → D → Option Bool} {x y : V} {Q : VK} (h : rDD U (fun a b => bool1 (f a b)) x y H Q) : rDB U f x y H Q := by
  obtain ⟨G, ρ, σ, a, b, d, own, e, R, ra, rb, k⟩ := h
  obtain ⟨r, e1, rfl, rfl⟩ := bool1_some e
  exact ⟨G, ρ, σ, a, b, r, e1, R, ra, rb, k _ H (same_refl H) ⟨R, rfl⟩⟩
end
section
variable {X : Cx} {Γ : Gam} {a b c : Expr} {x y z : Ex} {pos : Pos}
theorem PE.imp {e : Expr} {t t' : TE} (h : PE X e t) (k : ∀ σ H Q, t' σ H Q → t σ H Q) : PE X e t' := ⟨fun pins s σ H Q I q => h.run pins s σ H Q I (k σ H Q q)⟩
theorem PT.imp {e : Expr} {t t' : TT} (h : PT X e t) (k : ∀ σ H Q, t' σ H Q → t σ H Q) : PT X e t' := ⟨fun pins s σ H Q I q => h.run pins s σ H Q I (k σ H Q q)⟩
theorem PA.imp {e : List Expr} {t t' : TA} (h : PA X e t) (k : ∀ σ H Q, t' σ H Q → t σ H Q) : PA X e t' := ⟨fun pos pins s σ H Q I q => h.run pos pins s σ H Q I (k σ H Q q)⟩
abbrev LE (X : Cx) (Γ : Gam) (e : Expr) (x : Ex) : Prop := PE X e (tEv (su X) Γ x)
abbrev LT_ (X : Cx) (Γ : Gam) (e : Expr) (x : Ex) : Prop := PT X e (tTs (su X) Γ x)
abbrev LA (X : Cx) (Γ : Gam) (es : List Expr) (xs : List Ex) : Prop := PA X es (tEvs (su X) Γ xs)
theorem le_var {i : Nat} {n : Str} (hN : X.N[i]? = some n) (hv : Vis X.env.scope n) (hd : (n == ("__debug__" : Str)) = false := by decide) (hcd : (n == ("__classdict__" : Str)) = false := by decide) : LE X Γ (.Name n pos) (.v i) := by
  refine PE.imp (pe_var hN hv hd hcd) fun σ H Q ⟨G, ρ, h, ρ', E, R, k⟩ => ?_
  have hne : ρ.at i ≠ .un := fun z => by unfold ev at E; rw [z] at E; cases E
  have E' : h = .s i ∧ ρ' = ρ := by
    unfold ev at E
    split at E
    · cases E
    · cases E; exact ⟨rfl, rfl⟩
  obtain ⟨rfl, rfl⟩ := E'
  have hs : ∃ v, σ[i]? = some (some v) := by
    cases q : ρ'.at i with
    | un => exact absurd q hne
    | va d => obtain ⟨v, e, _⟩ := R.va i d q; exact ⟨v, e⟩
    | ow d => obtain ⟨v, e, _⟩ := R.ow i d q; exact ⟨_, e⟩
    | io d => obtain ⟨v, e, _⟩ := R.io i d q; exact ⟨_, e⟩
    | bo d => obtain ⟨v, e, _⟩ := R.bo i d q; exact ⟨v, e⟩
  obtain ⟨v, e⟩ := hs
  exact ⟨v, e, k v H .refl .refl ⟨R, e, hne⟩⟩
theorem le_const {e : Expr} {v : V} {d : D} (h : PE X e (tC v)) (r : ∀ H O, Rp (su X) H O d v) : LE X Γ e (.k d) := by
  refine PE.imp h fun σ H Q ⟨G, ρ, h, ρ', E, R, k⟩ => ?_
  cases E
  exact k v H .refl .refl ⟨R, r _ _⟩
theorem le_int {i : Int} {j} : LE X Γ (.Constant (.int i) j pos) (.k (.int i)) := le_const pe_int fun _ _ => rfl
theorem le_bl {i : Bool} {j} : LE X Γ (.Constant (.bool i) j pos) (.k (.bool i)) := le_const pe_bl fun _ _ => rfl
theorem le_non {j} : LE X Γ (.Constant .none j pos) (.k .none) := le_const pe_non fun _ _ => rfl
theorem le_str {i : Str} {j} : LE X Γ (.Constant (.str i) j pos) (.k (.str i)) := le_const pe_str fun _ _ => rfl
theorem le_globI {n : Str} {i : Int} {t : Tok} (hm : X.mg n = some (.int i t)) (hg : Gl X n) (hd : (n == ("__debug__" : Str)) = false := by decide) : LE X Γ (.Name n pos) (.k (.int i)) := le_const (pe_glob (v := .int i) hg hm ⟨t, rfl⟩ hd) fun _ _ => rfl
theorem le_bin {o : O2} (ha : LE X Γ a x) (hb : LE X Γ b y) : LE X Γ (.BinOp a (astO o) b pos) (.bin o x y) := PE.imp (pe_op (op_bin o) ha hb) fun _ _ _ t => tEv2 (fun _ => rfl) t
theorem le_neg (ha : LE X Γ a x) : LE X Γ (.UnaryOp .USub a pos) (.neg x) := by
  refine PE.imp (pe_un un_neg ha) fun σ H Q t => ?_
  obtain ⟨G, ρ, h, ρ', E, R, k⟩ := tEv1 (f := fun x => val1 (negD x)) (fun _ => rfl) t
  refine ⟨G, ρ, h, ρ', E, R, fun v H1 F S r => ?_⟩
  obtain ⟨G1, ρ1, σ1, a, d, own, e, R1, ra, k1⟩ := k v H1 F S r
  obtain ⟨e1, rfl⟩ := val1_some e
  cases a <;> first | (cases e1; done) | skip
  cases e1
  exact ⟨_, rv_int ra, k1 _ H1 (same_refl H1) ⟨R1, rfl⟩⟩
theorem le_cmp {o : Cm} (hu : X.A.units + 200 < cLine) (ha : LE X Γ a x) (hb : LE X Γ b y) (hm : behindInMarks (astC o) b = false) : LE X Γ (.Compare a [astC o] [b] pos) (.cmp o x y) :=
  PE.imp (pe_cmpR (op_cmp hu o) ha hb hm) fun _ _ _ t => by
    obtain ⟨G, ρ, h, ρ', E, R, k⟩ := tEv2 (f := fun x y => bool1 (cmpD o x y)) (fun _ => rfl) t
    exact ⟨G, ρ, h, ρ', E, R, fun v H1 F S r => by
      obtain ⟨G1, ρ1, h1, ρ1', E1, R1, k1⟩ := k v H1 F S r
      exact ⟨G1, ρ1, h1, ρ1', E1, R1, fun v H1 F S r => rDD_bool (k1 v H1 F S r)⟩⟩
theorem boolH_some {o : Option (Hd × Ro)} {k : Bool} {ρ' : Ro} (E : boolH o = some (k, ρ')) : ∃ h, o = some (h, ρ') ∧ h.get ρ' = some (.bool k) := by
  unfold boolH at E
  cases o with
  | none => cases E
  | some p =>
    obtain ⟨h, ρ1⟩ := p
    dsimp only at E
    split at E
    · rename_i g
      cases E
      exact ⟨h, rfl, g⟩
    · cases E
theorem evB_some {e : Ex} {k : Bool} {ρ ρ' : Ro} (E : evB Γ e ρ = some (k, ρ')) : ∃ h, ev Γ e ρ = some (h, ρ') ∧ h.get ρ' = some (.bool k) := boolH_some E
/-- a test by a value -/
theorem tTs_of {U : Su} {e : Ex} {σ : L2.St} {H : Hp} {Q : Bool → Hp → Prop} (t : tTs U Γ e σ H Q) : tEv U Γ e σ H fun v H' => ∃ k, v = .bl k ∧ Q k H' := by
  obtain ⟨G, ρ, b, ρ', E, R, k⟩ := t
  obtain ⟨h, E1, g⟩ := evB_some E
  exact ⟨G, ρ, h, ρ', E1, R, fun v H' F S r => ⟨b, rv_bl (r.get0G g), k H' F S r.relG⟩⟩
theorem lt_val (h : LE X Γ a x) (he : ∀ whole, isTrue a X.env whole = (do let v ← whole; standAt a.pos; holding [v] (truthy v)) := by intro _; rfl) : LT_ X Γ a x :=
  PT.imp (pt_val h he) fun _ _ _ t => tTs_of t
theorem lt_cmp {o : Cm} (hu : X.A.units + 200 < cLine) (ha : LE X Γ a x) (hb : LE X Γ b y) (hm : behindInMarks (astC o) b = false) : LT_ X Γ (.Compare a [astC o] [b] pos) (.cmp o x y) :=
  PT.imp (pt_cmpR (op_cmp hu o) ha hb hm) fun _ _ _ t => by
    obtain ⟨G, ρ, h, ρ', E, R, k⟩ := tEv2 (f := fun x y => bool1 (cmpD o x y)) (fun _ => rfl) (tTs_of t)
    exact ⟨G, ρ, h, ρ', E, R, fun v H1 F S r => by
      obtain ⟨G1, ρ1, h1, ρ1', E1, R1, k1⟩ := k v H1 F S r
      exact ⟨G1, ρ1, h1, ρ1', E1, R1, fun v H1 F S r => rDD_bool (k1 v H1 F S r)⟩⟩
end
end LT
end
section
set_option linter.all false
set_option maxRecDepth 100000
namespace LT
open PySem PySem.Spec PyProof.Rows L2
section
variable {U : Su} {G : Gh} {ρ ρ' ρ1 ρ2 ρ3 : Ro} {σ : L2.St} {H H1 H2 H3 : Hp} {h h1 h2 h3 : Hd} {v : V} {x y z d : D} {Γ : Gam} {a b c : Ex}
theorem evAnd_some {r : Hd × Ro} (e : ev Γ (.and_ a b) ρ = some r) : ∃ h ρ1, ev Γ a ρ = some (h, ρ1) ∧ ((h.get ρ1 = some (.bool true) ∧ ∃ h2 ρ2 k, ev Γ b ρ1 = some (h2, ρ2) ∧ h2.get ρ2 = some (.bool k) ∧ r = (.d (.bool k) false, ρ2)) ∨ (h.get ρ1 = some (.bool false) ∧ r = (.d (.bool false) false, ρ1))) := by
  obtain ⟨⟨h, ρ1⟩, E1, E2⟩ := Option.bind_eq_some_iff.mp e
  refine ⟨h, ρ1, E1, ?_⟩
  dsimp only at E2
  split at E2
  · rename_i g
    obtain ⟨⟨h2, ρ2⟩, E3, E4⟩ := Option.bind_eq_some_iff.mp E2
    dsimp only at E4
    split at E4
    · rename_i k g2
      cases E4
      exact .inl ⟨g, h2, ρ2, k, E3, g2, rfl⟩
    · cases E4
  · rename_i g
    cases E2
    exact .inr ⟨g, rfl⟩
  · cases E2
theorem evOr_some {r : Hd × Ro} (e : ev Γ (.or_ a b) ρ = some r) : ∃ h ρ1, ev Γ a ρ = some (h, ρ1) ∧ ((h.get ρ1 = some (.bool false) ∧ ∃ h2 ρ2 k, ev Γ b ρ1 = some (h2, ρ2) ∧ h2.get ρ2 = some (.bool k) ∧ r = (.d (.bool k) false, ρ2)) ∨ (h.get ρ1 = some (.bool true) ∧ r = (.d (.bool true) false, ρ1))) := by
  obtain ⟨⟨h, ρ1⟩, E1, E2⟩ := Option.bind_eq_some_iff.mp e
  refine ⟨h, ρ1, E1, ?_⟩
  dsimp only at E2
  split at E2
  · rename_i g
    obtain ⟨⟨h2, ρ2⟩, E3, E4⟩ := Option.bind_eq_some_iff.mp E2
    dsimp only at E4
    split at E4
    · rename_i k g2
      cases E4
      exact .inl ⟨g, h2, ρ2, k, E3, g2, rfl⟩
    · cases E4
  · rename_i g
    cases E2
    exact .inr ⟨g, rfl⟩
  · cases E2
theorem evB_of {e : Ex} {k : Bool} (E : ev Γ e ρ = some (h, ρ')) (g : h.get ρ' = some (.bool k)) : evB Γ e ρ = some (k, ρ') := by
  unfold evB boolH
  rw [E]
  dsimp only
  rw [g]
/-- a value goes elsewhere -/
theorem esc_give {own : Bool} {P : VK} (E : ev Γ a ρ = some (h, ρ1)) (e : LT.esc ρ1 h = some (d, own, ρ2)) (R : Rel U G ρ σ H)
    (k : ∀ v H', Fr ρ σ H H' → Sb ρ2 ρ σ → Rel U G ρ2 σ H' → Rp U H' (Pr G ρ2 σ) d v → P v H') : tEv U Γ a σ H P :=
  one E R fun v H1 F S r => let ⟨R2, p, S2⟩ := r.give e; k v H1 F (S2.trans S) R2 p
theorem evs_len : ∀ {es : List Ex} {ρ : Ro} {ds : List D} {ρ' : Ro}, evs Γ es ρ = some (ds, ρ') → ds.length = es.length
  | [], _, _, _, e => by cases e; rfl
  | a :: es, ρ, ds, ρ', e => by
    obtain ⟨⟨h, ρ1⟩, E1, e⟩ := Option.bind_eq_some_iff.mp e
    obtain ⟨⟨d, own, ρ2⟩, E2, e⟩ := Option.bind_eq_some_iff.mp e
    obtain ⟨⟨ds', ρ3⟩, E3, e⟩ := Option.bind_eq_some_iff.mp e
    cases e
    simp [evs_len E3]
end
section
variable {X : Cx} {Γ : Gam} {a b c : Expr} {es rest : List Expr} {x y z : Ex} {xs : List Ex} {pos : Pos}
theorem le_and (ha : LE X Γ a x) (hb : LE X Γ (.BoolOp .And (b :: rest) pos) y) : LE X Γ (.BoolOp .And (a :: b :: rest) pos) (.and_ x y) := by
  refine PE.imp (pe_and ha hb) fun σ H Q ⟨G, ρ, h, ρ', E, R, k⟩ => ?_
  obtain ⟨h1, ρ1, E1, ⟨g, h2, ρ2, t, E2, g2, e⟩ | ⟨g, e⟩⟩ := evAnd_some E
  · obtain ⟨rfl, rfl⟩ := Prod.mk.inj e
    refine one E1 R fun v H1 F1 S1 r1 => ⟨true, rv_bl (r1.get0G g), ?_⟩
    rw [if_pos rfl]
    exact ⟨G, ρ1, h2, ρ', E2, r1.relG, fun v H2 F2 S2 r2 => k v H2 (F1.trans S1 F2) (S2.trans S1) ⟨r2.relG, rv_bl (r2.get0G g2)⟩⟩
  · obtain ⟨rfl, rfl⟩ := Prod.mk.inj e
    refine one E1 R fun v H1 F1 S1 r1 => ⟨false, rv_bl (r1.get0G g), ?_⟩
    rw [if_neg Bool.false_ne_true]
    exact k _ H1 F1 S1 ⟨r1.relG, rfl⟩
theorem le_or (ha : LE X Γ a x) (hb : LE X Γ (.BoolOp .Or (b :: rest) pos) y) : LE X Γ (.BoolOp .Or (a :: b :: rest) pos) (.or_ x y) := by
  refine PE.imp (pe_or ha hb) fun σ H Q ⟨G, ρ, h, ρ', E, R, k⟩ => ?_
  obtain ⟨h1, ρ1, E1, ⟨g, h2, ρ2, t, E2, g2, e⟩ | ⟨g, e⟩⟩ := evOr_some E
  · obtain ⟨rfl, rfl⟩ := Prod.mk.inj e
    refine one E1 R fun v H1 F1 S1 r1 => ⟨false, rv_bl (r1.get0G g), ?_⟩
    rw [if_neg Bool.false_ne_true]
    exact ⟨G, ρ1, h2, ρ', E2, r1.relG, fun v H2 F2 S2 r2 => k v H2 (F1.trans S1 F2) (S2.trans S1) ⟨r2.relG, rv_bl (r2.get0G g2)⟩⟩
  · obtain ⟨rfl, rfl⟩ := Prod.mk.inj e
    refine one E1 R fun v H1 F1 S1 r1 => ⟨true, rv_bl (r1.get0G g), ?_⟩
    rw [if_pos rfl]
    exact k _ H1 F1 S1 ⟨r1.relG, rfl⟩
theorem le_one {op} (ha : LE X Γ a x) : LE X Γ (.BoolOp op [a] pos) x := pe_one ha
theorem le_not (ha : LE X Γ a x) : LE X Γ (.UnaryOp .Not a pos) (.not_ x) := by
  refine PE.imp (pe_not ha) fun σ H Q t => ?_
  obtain ⟨G, ρ, h, ρ', E, R, k⟩ := tEv1 (f := fun x => bool1 (notD x)) (fun _ => rfl) t
  refine ⟨G, ρ, h, ρ', E, R, fun v H1 F S r => ?_⟩
  obtain ⟨G1, ρ1, σ1, a, d, own, e, R1, ra, k1⟩ := k v H1 F S r
  obtain ⟨b, e1, rfl, rfl⟩ := bool1_some e
  cases a <;> first | (cases e1; done) | skip
  cases e1
  exact ⟨_, rv_bl ra, k1 _ H1 (same_refl H1) ⟨R1, rfl⟩⟩
/-- tests -/
theorem lw_and1 {X : Cx} {a : Expr} {x : Ex} {pos : Pos} (ha : LT_ X Γ a x) : PW X (.BoolOp .And [a] pos) (tTs (su X) Γ x) := pw_and1 ha
theorem lw_or1 (ha : LT_ X Γ a x) : PW X (.BoolOp .Or [a] pos) (tTs (su X) Γ x) := pw_or1 ha
theorem PW.imp {e : Expr} {t t' : TT} (h : PW X e t) (k : ∀ σ H Q, t' σ H Q → t σ H Q) : PW X e t' := ⟨fun wh pins s σ H Q I q => h.run wh pins s σ H Q I (k σ H Q q)⟩
theorem tTs_rel {U : Su} {e : Ex} {G : Gh} {ρ ρ1 : Ro} {σ : L2.St} {H : Hp} {h : Hd} {k : Bool} {Q : Bool → Hp → Prop} (E : ev Γ e ρ = some (h, ρ1)) (g : h.get ρ1 = some (.bool k)) (R : Rel U G ρ σ H) (q : ∀ H', Fr ρ σ H H' → Sb ρ1 ρ σ → Rel U G ρ1 σ H' → Q k H') : tTs U Γ e σ H Q :=
  ⟨G, ρ, k, ρ1, evB_of E g, R, q⟩
theorem lw_and (ha : LT_ X Γ a x) (hb : PW X (.BoolOp .And (b :: rest) pos) (tTs (su X) Γ y)) : PW X (.BoolOp .And (a :: b :: rest) pos) (tTs (su X) Γ (.and_ x y)) := by
  refine PW.imp (pw_and ha hb) fun σ H Q ⟨G, ρ, t, ρ', E, R, k⟩ => ?_
  obtain ⟨h, E, gh⟩ := evB_some E
  obtain ⟨h1, ρ1, E1, ⟨g, h2, ρ2, t', E2, g2, e⟩ | ⟨g, e⟩⟩ := evAnd_some E
  · obtain ⟨rfl, rfl⟩ := Prod.mk.inj e
    cases gh
    refine tTs_rel E1 g R fun H1 F1 S1 R1 => ?_
    rw [if_pos rfl]
    exact tTs_rel E2 g2 R1 fun H2 F2 S2 R2 => k H2 (F1.trans S1 F2) (S2.trans S1) R2
  · obtain ⟨rfl, rfl⟩ := Prod.mk.inj e
    cases gh
    refine tTs_rel E1 g R fun H1 F1 S1 R1 => ?_
    rw [if_neg Bool.false_ne_true]
    exact k H1 F1 S1 R1
theorem lw_or (ha : LT_ X Γ a x) (hb : PW X (.BoolOp .Or (b :: rest) pos) (tTs (su X) Γ y)) : PW X (.BoolOp .Or (a :: b :: rest) pos) (tTs (su X) Γ (.or_ x y)) := by
  refine PW.imp (pw_or ha hb) fun σ H Q ⟨G, ρ, t, ρ', E, R, k⟩ => ?_
  obtain ⟨h, E, gh⟩ := evB_some E
  obtain ⟨h1, ρ1, E1, ⟨g, h2, ρ2, t', E2, g2, e⟩ | ⟨g, e⟩⟩ := evOr_some E
  · obtain ⟨rfl, rfl⟩ := Prod.mk.inj e
    cases gh
    refine tTs_rel E1 g R fun H1 F1 S1 R1 => ?_
    rw [if_neg Bool.false_ne_true]
    exact tTs_rel E2 g2 R1 fun H2 F2 S2 R2 => k H2 (F1.trans S1 F2) (S2.trans S1) R2
  · obtain ⟨rfl, rfl⟩ := Prod.mk.inj e
    cases gh
    refine tTs_rel E1 g R fun H1 F1 S1 R1 => ?_
    rw [if_pos rfl]
    exact k H1 F1 S1 R1
theorem lt_not (ha : LT_ X Γ a x) : LT_ X Γ (.UnaryOp .Not a pos) (.not_ x) := by
  refine PT.imp (pt_not ha) fun σ H Q ⟨G, ρ, t, ρ', E, R, k⟩ => ?_
  obtain ⟨h, E, g⟩ := evB_some E
  obtain ⟨h1, ρ1, w, d, own, E1, g1, e1, e2⟩ := un1_some (show un1 _ _ = _ from E)
  obtain ⟨r, e3, rfl, rfl⟩ := bool1_some e1
  obtain ⟨rfl, rfl⟩ := Prod.mk.inj e2
  cases g
  cases w <;> first | (cases e3; done) | skip
  cases e3
  exact tTs_rel E1 g1 R k
theorem evChn_some {c1 c2 : Cm} {ρ : Ro} {r : Hd × Ro} (e : ev Γ (.chn c1 c2 x y z) ρ = some r) : ∃ h1 ρ1 h2 ρ2 d1 d2 t, ev Γ x ρ = some (h1, ρ1) ∧ ev Γ y ρ1 = some (h2, ρ2) ∧ h1.get ρ2 = some d1 ∧ h2.get ρ2 = some d2 ∧ cmpD c1 d1 d2 = some t ∧
    ((t = false ∧ r = (.d (.bool false) false, ρ2)) ∨ (t = true ∧ ∃ h3 ρ3 d3 d2' t', ev Γ z ρ2 = some (h3, ρ3) ∧ h3.get ρ3 = some d3 ∧ h2.get ρ3 = some d2' ∧ cmpD c2 d2' d3 = some t' ∧ r = (.d (.bool t') false, ρ3))) := by
  obtain ⟨⟨h1, ρ1⟩, E1, e⟩ := Option.bind_eq_some_iff.mp e
  obtain ⟨⟨h2, ρ2⟩, E2, e⟩ := Option.bind_eq_some_iff.mp e
  obtain ⟨d1, E3, e⟩ := Option.bind_eq_some_iff.mp e
  obtain ⟨d2, E4, e⟩ := Option.bind_eq_some_iff.mp e
  obtain ⟨t, E5, e⟩ := Option.bind_eq_some_iff.mp e
  refine ⟨h1, ρ1, h2, ρ2, d1, d2, t, E1, E2, E3, E4, E5, ?_⟩
  cases t with
  | false => cases e; exact .inl ⟨rfl, rfl⟩
  | true =>
    rw [if_pos rfl] at e
    obtain ⟨⟨h3, ρ3⟩, F1, e⟩ := Option.bind_eq_some_iff.mp e
    obtain ⟨d3, F2, e⟩ := Option.bind_eq_some_iff.mp e
    obtain ⟨d2', F3, e⟩ := Option.bind_eq_some_iff.mp e
    obtain ⟨t', F4, e⟩ := Option.bind_eq_some_iff.mp e
    cases e
    exact .inr ⟨rfl, h3, ρ3, d3, d2', t', F1, F2, F3, F4, rfl⟩
theorem tChn {c1 c2 : Cm} {U : Su} {σ : L2.St} {H : Hp} {Q : VK} (t : tEv U Γ (.chn c1 c2 x y z) σ H Q) : tChain (rDB U (cmpD c1)) (rDB U (cmpD c2)) (tEv U Γ x) (tEv U Γ y) (tEv U Γ z) σ H Q := by
  obtain ⟨G, ρ, h, ρ', E, R, k⟩ := t
  obtain ⟨h1, ρ1, h2, ρ2, d1, d2, t, E1, E2, g1, g2, e, q⟩ := evChn_some E
  refine one E1 R fun v1 H1 F1 S1 r1 => ⟨gh G h1 v1, ρ1, h2, ρ2, E2, r1.rel, fun v2 H2 F2 S2 r2 => ?_⟩
  have F12 := F1.trans S1 F2
  have S12 := S2.trans S1
  have G1 := r1.getG F2 S2 r2.relG g1
  refine ⟨G, ρ2, σ, d1, d2, t, e, r2.relG.un, G1, (r2.get0G g2).weak (gh_mono G h1 v1), t, rfl, ?_⟩
  rcases q with ⟨rfl, q⟩ | ⟨rfl, h3, ρ3, d3, d2', t', E3, g3, g2', e', q⟩
  · obtain ⟨rfl, rfl⟩ := Prod.mk.inj q
    rw [if_neg Bool.false_ne_true]
    exact k _ H2 F12 S12 ⟨r2.relG.un, rfl⟩
  · obtain ⟨rfl, rfl⟩ := Prod.mk.inj q
    rw [if_pos rfl]
    refine ⟨gh (gh G h1 v1) h2 v2, ρ2, h3, ρ', E3, r2.rel, fun v3 H3 F3 S3 r3 => ?_⟩
    exact ⟨G, ρ', σ, d2', d3, t', e', r3.relG.un.un, (r2.getG F3 S3 r3.relG g2').weak (gh_mono G h1 v1), ((r3.get0G g3).weak (gh_mono _ h2 v2)).weak (gh_mono G h1 v1), k _ H3 (F12.trans S12 F3) (S3.trans S12) ⟨r3.relG.un.un, rfl⟩⟩
theorem le_chn {c1 c2 : Cm} (hu : X.A.units + 200 < cLine) (ha : LE X Γ a x) (hb : LE X Γ b y) (hc : LE X Γ c z) (hm : lastMarks [astC c1, astC c2] [b, c] = false) : LE X Γ (.Compare a [astC c1, astC c2] [b, c] pos) (.chn c1 c2 x y z) :=
  PE.imp (pe_chain (op_cmp hu c1) (op_cmp hu c2) ha hb hc hm) fun _ _ _ t => tChn t
theorem lt_chn {c1 c2 : Cm} (hu : X.A.units + 200 < cLine) (ha : LE X Γ a x) (hb : LE X Γ b y) (hc : LE X Γ c z) (hm : lastMarks [astC c1, astC c2] [b, c] = false) : LT_ X Γ (.Compare a [astC c1, astC c2] [b, c] pos) (.chn c1 c2 x y z) :=
  PT.imp (pt_chain (op_cmp hu c1) (op_cmp hu c2) ha hb hc hm) fun _ _ _ t => tChn (tTs_of t)
theorem le_ite (hc : LT_ X Γ c z) (ha : LE X Γ a x) (hb : LE X Γ b y) : LE X Γ (.IfExp c a b pos) (.ite z x y) := by
  refine PE.imp (pe_ifExp hc ha hb) fun σ H Q ⟨G, ρ, h, ρ', E, R, k⟩ => ?_
  obtain ⟨⟨h0, ρ0⟩, E0, E⟩ := Option.bind_eq_some_iff.mp E
  dsimp only at E
  split at E
  · rename_i g
    obtain ⟨⟨h2, ρ2⟩, E2, E⟩ := Option.bind_eq_some_iff.mp E
    obtain ⟨⟨d, own, ρ3⟩, E3, E⟩ := Option.bind_eq_some_iff.mp E
    obtain ⟨rfl, rfl⟩ := Prod.mk.inj (Option.some.inj E)
    refine tTs_rel E0 g R fun H1 F1 S1 R1 => ?_
    rw [if_pos rfl]
    exact one E2 R1 fun v H2 F2 S2 r2 => let ⟨r3, S3⟩ := r2.esc E3; k v H2 (F1.trans S1 F2) ((S3.trans S2).trans S1) r3
  · rename_i g
    obtain ⟨⟨h2, ρ2⟩, E2, E⟩ := Option.bind_eq_some_iff.mp E
    obtain ⟨⟨d, own, ρ3⟩, E3, E⟩ := Option.bind_eq_some_iff.mp E
    obtain ⟨rfl, rfl⟩ := Prod.mk.inj (Option.some.inj E)
    refine tTs_rel E0 g R fun H1 F1 S1 R1 => ?_
    rw [if_neg Bool.false_ne_true]
    exact one E2 R1 fun v H2 F2 S2 r2 => let ⟨r3, S3⟩ := r2.esc E3; k v H2 (F1.trans S1 F2) ((S3.trans S2).trans S1) r3
  · cases E
/-- values in a row -/
theorem la_nil : LA X Γ [] [] := PA.imp pa_nil fun σ H Q ⟨G, ρ, ds, ρ', E, R, k⟩ => by
  cases E
  exact k [] H .refl .refl R rfl
theorem la_cons (ha : LE X Γ a x) (hr : LA X Γ es xs) (hs : starEach (a :: es) X.env = (false, eval a X.env) :: starEach es X.env := by rfl) : LA X Γ (a :: es) (x :: xs) := by
  refine PA.imp (pa_cons ha hr hs) fun σ H Q ⟨G, ρ, ds, ρ', E, R, k⟩ => ?_
  obtain ⟨⟨h1, ρ1⟩, E1, E⟩ := Option.bind_eq_some_iff.mp E
  obtain ⟨⟨d, own, ρ2⟩, E2, E⟩ := Option.bind_eq_some_iff.mp E
  obtain ⟨⟨ds', ρ3⟩, E3, E⟩ := Option.bind_eq_some_iff.mp E
  obtain ⟨rfl, rfl⟩ := Prod.mk.inj (Option.some.inj E)
  refine esc_give E1 E2 R fun v H1 F1 S1 R1 p => ⟨G, ρ2, ds', ρ3, E3, R1, fun vs H2 F2 S2 R2 ps => ?_⟩
  exact k _ H2 (F1.trans S1 F2) (S2.trans S1) R2 ⟨v, vs, rfl, p.move (mv_later F2 S2 fun _ o => o), ps⟩
theorem le_tup {n} (hl : xs.length ≤ line := by decide) (h : LA X Γ es xs) : LE X Γ (.Tuple es n pos) (.tup xs) := by
  refine PE.imp (pe_tup h) fun σ H Q ⟨G, ρ, h, ρ', E, R, k⟩ => ?_
  obtain ⟨⟨ds, ρ1⟩, E1, E⟩ := Option.bind_eq_some_iff.mp E
  obtain ⟨rfl, rfl⟩ := Prod.mk.inj (Option.some.inj E)
  refine ⟨G, ρ, ds, ρ1, E1, R, fun vs H1 F S R1 ps => ⟨by rw [← ps.length, evs_len E1, ← line_eq]; exact hl, fun p n => ?_⟩⟩
  exact k _ _ (F.and_same (same_upd n)) S (R1.newTup n ps)
theorem le_lst (hl : xs.length ≤ line := by decide) (h : LA X Γ es xs) : LE X Γ (.List es pos) (.lst xs) := by
  refine PE.imp (pe_lst h) fun σ H Q ⟨G, ρ, h, ρ', E, R, k⟩ => ?_
  obtain ⟨⟨ds, ρ1⟩, E1, E⟩ := Option.bind_eq_some_iff.mp E
  obtain ⟨rfl, rfl⟩ := Prod.mk.inj (Option.some.inj E)
  refine ⟨G, ρ, ds, ρ1, E1, R, fun vs H1 F S R1 ps => ⟨by rw [← ps.length, evs_len E1, ← line_eq]; exact hl, fun p n => ?_⟩⟩
  exact k _ _ (F.and_same (same_upd n)) S (R1.newLst n ps)
end
end LT
end
section
set_option linter.all false
set_option maxRecDepth 100000
/-! Subscripts, slices, built-ins by values. -/
namespace LT
open PySem PySem.Spec PyProof.Rows L2
section
variable {X : Cx} {pins : List (Addr × Obj)} {σ' : L2.St} {H : Hp} {s : Shared} {O : Addr → Prop} {a : Addr} {kvs : List (D × D)} {x y : V} {v u : Value} {d e : D} {Q : VK}
theorem ixI_eq (n : Nat) (i : Int) : ixI n i = L2.ixN n i := rfl
theorem RpL.atI {U : Su} {H : Hp} {O : Addr → Prop} {ds : List D} {xs : List V} {i : Int} {d : D} (r : RpL U H O ds xs) (h : ((ixI ds.length i).bind fun n => ds[n]?) = some d) : ∃ x, L2.atI xs i = some x ∧ Rp U H O d x := by
  obtain ⟨n, e1, e2⟩ := Option.bind_eq_some_iff.mp h
  obtain ⟨x, e3, r3⟩ := r.get e2
  refine ⟨x, ?_, r3⟩
  unfold L2.atI
  rw [← r.length, ← ixI_eq, e1]
  exact e3
/-- what a read datum is that is one of the items of a read datum -/
theorem ix_dict (hu : X.A.units + 200 < cLine) (I : Inv X pins σ' H s) (value slice : Expr) (rx : RelV (.ref a) v) (ry : RelV y u) (c : CtD (su X) H O kvs a) (no : isObj kvs = false) (g : kGo kvs d = true) (rd : Rv (su X) H O d y) (e : dGet kvs d = some z)
    (k : ∀ w, Rp (su X) H O z w → Q w H) (hs : subscripted slice false v u = operate [v, u] (getItem v u)) : wpAny (model X.prog X.w) X.A (subscriptTail value slice v u) (EP X pins σ' Q) X.xe s := by
  cases rx
  cases c.says I no g with
  | t xs nk h1 h2 h3 h4 h5 h6 h7 =>
    obtain ⟨b, rfl, hb⟩ := nestedIs_of I h3 h4 h7 rd ry
    have f := h5.find h3
    rw [e] at f
    cases q : atKey xs nk with
    | none => rw [q] at f; exact f.elim
    | some p =>
      rw [q] at f
      obtain ⟨w, rw', rp⟩ := f
      exact tail_any h6.typeIs slot_dict_getitem.lookup (wpAny_getItem_heap (room_nested (X := X) (k := 0) (by omega)) hb h6 q ⟨w, H, I.tok _, rw', k w rp⟩) hs
  | m ys ky h1 h2 h3 h4 h5 =>
    have hk := keyIs_of h3 rd ry
    have f := h4.find h3
    rw [e] at f
    cases q : valueAt ys ky with
    | none => rw [q] at f; exact f.elim
    | some p =>
      rw [q] at f
      obtain ⟨w, rw', rp⟩ := f
      exact tail_any h5.mapOf.typeIs slot_dict_getitem.lookup (wpAny_getItem_of hk h5.mapOf q ⟨w, H, I.tok _, rw', k w rp⟩) hs
theorem ix_data (hu : X.A.units + 200 < cLine) : IxR X (rDD (su X) fun x y => val1 (ixD x y)) := by
  intro value slice pins s σ' H x y v u Q I rx ry h hs
  obtain ⟨G, ρ, σ, a, b, d, own, e, R, ra, rb, k⟩ := h
  obtain ⟨e1, rfl⟩ := val1_some e
  have fin : ∀ w, Rp (su X) H (Pr G ρ σ) d w → Q w H := fun w r => k w H (same_refl H) ⟨R, r⟩
  unfold ixD at e1
  split at e1
  · rename_i ds j
    obtain ⟨p, xs, rfl, hq, rl⟩ := rv_tup ra
    cases rv_int rb
    obtain ⟨w, ew, r⟩ := rl.atI e1
    exact ix_tup value slice pins s σ' H _ _ v u Q I rx ry ⟨p, xs, j, w, rfl, rfl, hq, ew, fin w r⟩ hs
  · rename_i ds j
    obtain ⟨p, xs, rfl, hq, rl⟩ := rv_lst ra
    cases rv_int rb
    obtain ⟨w, ew, r⟩ := rl.atI e1
    exact ix_list value slice pins s σ' H _ _ v u Q I rx ry ⟨p, xs, j, w, rfl, rfl, hq, ew, fin w r⟩ hs
  · split at e1
    · cases e1
    · rename_i no
      split at e1
      · rename_i g
        obtain ⟨p, rfl, c⟩ := rv_dct ra
        exact ix_dict hu I value slice rx ry c (by simpa using no) g rb e1 fin hs
      · cases e1
  · cases e1
/-- slices -/
def partD : D → Option (Option Int)
  | .none => some none
  | .int v => some (some v)
  | _ => none
theorem slI_part {n d : Nat} {z : D} {m : Nat} (h : slI n d z = some m) : ∃ o, partD z = some o ∧ m = HT.sIx n d o := by
  cases z with
  | none => cases h; exact ⟨none, rfl, rfl⟩
  | int v =>
    refine ⟨some v, rfl, ?_⟩
    have h : some (if v < 0 then (if v + n < 0 then 0 else (v + n).toNat) else Nat.min v.toNat n) = some m := h
    cases h
    unfold HT.sIx
    by_cases hv : v < 0
    · simp only [hv, if_true] <;> (split <;> omega)
    · simp only [hv, if_false] <;> (simp only [Nat.min_def]; split <;> omega)
  | _ => cases h
def rSlD (U : Su) : V → Option Int → Option Int → Hp → VK → Prop := fun x lo hi H Q => ∃ G ρ σ a l h d own, slD a l h = some (d, own) ∧ partD l = some lo ∧ partD h = some hi ∧ Rel U G ρ σ H ∧ Rv U H (Pr G ρ σ) a x ∧ ∀ v H', Same H H' → HdR U G ρ σ H' (.d d own) v → Q v H'
theorem RpL.cut {U : Su} {ds : List D} {xs : List V} (r : RpL U H O ds xs) (lo hi : Option Int) : RpL U H O ((ds.drop (HT.sIx ds.length 0 lo)).take (HT.sIx ds.length ds.length hi - HT.sIx ds.length 0 lo)) (cutV xs lo hi) := by
  unfold cutV
  rw [← r.length]
  exact (r.drop _).take _
theorem sl_data : SlR X (rSlD (su X)) := by
  intro pins s σ' H x v vl vu lo hi sl Q I rx hs pl pu h
  obtain ⟨G, ρ, σ, a, l, h, d, own, e, p1, p2, R, ra, k⟩ := h
  unfold slD at e
  split at e
  · rename_i ds
    split at e
    · rename_i m1 m2 e1 e2
      obtain ⟨o1, q1, rfl⟩ := slI_part e1
      obtain ⟨o2, q2, rfl⟩ := slI_part e2
      rw [p1] at q1; cases q1
      rw [p2] at q2; cases q2
      cases e
      obtain ⟨p, xs, rfl, hq, rl⟩ := rv_tup ra
      have rc := rl.cut lo hi
      refine sl_tupA pins s σ' H _ v vl vu lo hi sl Q I rx hs pl pu ⟨p, xs, rfl, hq, fun w => ?_, fun _ p n => k _ _ (same_upd n) (R.newTup n rc)⟩
      refine k _ H (same_refl H) ⟨R, ?_⟩
      rw [← rl.length] at w
      rw [w.1, w.2]
      simp only [List.drop_zero, Nat.sub_zero, List.take_length]
      rcases ra with r | ⟨_, _, c⟩
      · exact r
      · exact c.elim
    · cases e
  · rename_i ds
    split at e
    · rename_i m1 m2 e1 e2
      obtain ⟨o1, q1, rfl⟩ := slI_part e1
      obtain ⟨o2, q2, rfl⟩ := slI_part e2
      rw [p1] at q1; cases q1
      rw [p2] at q2; cases q2
      cases e
      obtain ⟨p, xs, rfl, hq, rl⟩ := rv_lst ra
      have rc := rl.cut lo hi
      exact sl_list pins s σ' H _ v vl vu lo hi sl Q I rx hs pl pu ⟨p, xs, rfl, hq, fun p n => k _ _ (same_upd n) (R.newLst n rc)⟩
    · cases e
  · cases e
/-- len -/
def r1L (U : Su) (f : D → Option (D × Bool)) : List V → Hp → VK → Prop := fun xs H Q => ∃ x, xs = [x] ∧ rD1 U f x H Q
def r2L (U : Su) (f : D → D → Option (D × Bool)) : List V → Hp → VK → Prop := fun xs H Q => ∃ x y, xs = [x, y] ∧ rDD U f x y H Q
theorem call_lenD : CallR X (.builtin "len") (r1L (su X) fun x => val1 (lenD x)) := by
  intro pins s σ' H xs us Q I r h
  obtain ⟨x, rfl, G, ρ, σ, a, d, own, e, R, ra, k⟩ := h
  obtain ⟨e1, rfl⟩ := val1_some e
  have fin : ∀ n : Int, d = .int n → Q (.int n) H := fun n q => k _ H (same_refl H) ⟨R, by rw [q]; rfl⟩
  unfold lenD at e1
  split at e1
  · cases e1
    obtain ⟨p, xs, rfl, hq, rl⟩ := rv_tup ra
    exact call_len pins s σ' H _ us Q I r ⟨_, xs.length, rfl, .inr ⟨xs, hq, rfl⟩, fin _ (by rw [rl.length])⟩
  · cases e1
    obtain ⟨p, xs, rfl, hq, rl⟩ := rv_lst ra
    exact call_len pins s σ' H _ us Q I r ⟨_, xs.length, rfl, .inl ⟨xs, hq, rfl⟩, fin _ (by rw [rl.length])⟩
  · rename_i kvs
    split at e1
    · cases e1
    · rename_i no
      cases e1
      obtain ⟨p, rfl, c⟩ := rv_dct ra
      obtain ⟨w, rfl, rw'⟩ := vals1 r
      cases rw'
      have no' : isObj kvs = false := by simpa using no
      rw [objTag_isObj] at no'
      have hl := line63
      rcases c with ⟨_, ⟨xs, ⟨z, hs, nd, e⟩, r⟩ | ⟨ys, ⟨z, hs, e⟩, r⟩⟩ | ⟨c, _, _, _, t, _⟩
      · have hp := phiT_of I e
        obtain ⟨o, es, ep, h1, h2, h3, h4⟩ := hp
        have hm : s.heap.DictOfH (nestedKind X.prog X.w) p xs := ⟨o, es, ep, h1, h2, h3, h4, r.keysIs I, nd⟩
        have el : kvs.length = xs.length := by
          clear e h4 hm z nd fin k no
          have : ∀ {kvs : List (D × D)} {ys : List (NestedKey × Addr × Value)}, RpT (su X) H (Pr G ρ σ) kvs ys → kvs.length = ys.length := by
            intro kvs
            induction kvs with
            | nil => intro ys h; cases h; rfl
            | cons p r ih =>
              intro ys h
              obtain ⟨k, d⟩ := p
              obtain ⟨ky, b, u, v, yr, rfl, _, _, _, _, _, h⟩ := h
              simp [ih h]
          exact this r
        exact call_len_dictH hs hm (by omega) ⟨.int kvs.length, H, I.tok _, ⟨_, by rw [el]⟩, fin _ rfl⟩
      · have hp := phiM_of I e
        have el : kvs.length = ys.length := by
          clear e hp z fin k no
          have : ∀ {kvs : List (D × D)} {ys : List (Key × Value)}, RpM (su X) H (Pr G ρ σ) kvs ys → kvs.length = ys.length := by
            intro kvs
            induction kvs with
            | nil => intro ys h; cases h; rfl
            | cons p r ih =>
              intro ys h
              obtain ⟨k, d⟩ := p
              obtain ⟨ky, u, v, yr, rfl, _, _, _, h⟩ := h
              simp [ih h]
          exact this r
        exact call_len_dict hs hp (by omega) ⟨.int kvs.length, H, I.tok _, ⟨_, by rw [el]⟩, fin _ rfl⟩
      · rw [t] at no'; cases no'
  · rename_i z
    split at e1
    · rename_i hz
      cases e1
      cases rv_str ra
      exact call_len pins s σ' H _ us Q I r ⟨_, z.length, rfl, ⟨by rw [← line_eq]; exact hz, rfl⟩, fin _ rfl⟩
    · cases e1
  · cases e1
end
end LT
end
section
set_option linter.all false
set_option maxRecDepth 100000
namespace LT
open PySem PySem.Spec PyProof.Rows L2
section
variable {X : Cx} {Γ : Gam} {a b c : Expr} {es rest : List Expr} {x y z : Ex} {xs : List Ex} {p p2 pos apos : Pos}
/-! ### built-ins by values -/
theorem tcb1 {f : D → Option (D × Bool)} {U : Su} {n : Ex} (en : ∀ ρ, ev Γ n ρ = un1 f (ev Γ x ρ)) {σ : L2.St} {H : Hp} {Q : VK} (t : tEv U Γ n σ H Q) : tCB (r1L U f) (tCons (tEv U Γ x) tNil) σ H Q := by
  obtain ⟨G, ρ, h, ρ', E, R, k⟩ := tEv1 en t
  exact ⟨G, ρ, h, ρ', E, R, fun v H' F S r => ⟨v, rfl, k v H' F S r⟩⟩
theorem tcb2 {f : D → D → Option (D × Bool)} {U : Su} {n : Ex} (en : ∀ ρ, ev Γ n ρ = bi1 f (ev Γ x ρ) (ev Γ y)) {σ : L2.St} {H : Hp} {Q : VK} (t : tEv U Γ n σ H Q) : tCB (r2L U f) (tCons (tEv U Γ x) (tCons (tEv U Γ y) tNil)) σ H Q := by
  obtain ⟨G, ρ, h, ρ', E, R, k⟩ := tEv2 en t
  exact ⟨G, ρ, h, ρ', E, R, fun v H' F S r => by
    obtain ⟨G, ρ, h, ρ', E, R, k⟩ := k v H' F S r
    exact ⟨G, ρ, h, ρ', E, R, fun v' H' F S r => ⟨v, v', rfl, k v' H' F S r⟩⟩⟩
theorem le_b1 {f : D → Option (D × Bool)} {n : Ex} {g : Str} {id : String} (hc : CallR X (.builtin id) (r1L (su X) f)) (en : ∀ ρ, ev Γ n ρ = un1 f (ev Γ x ρ)) (hv : bootBuiltins g = some (.builtin id)) (hn : g ≠ "__name__") (hdb : (g == ("__debug__" : Str)) = false)
    (hm : X.mg g = none) (hg : Gl X g) (ha : LE X Γ a x) (he : starEach [a] X.env = (false, eval a X.env) :: starEach [] X.env) : LE X Γ (.Call (.Name g p) [a] [] pos) n :=
  PE.imp (pe_callB hc hg hm hv (pa_cons ha pa_nil he) hn hdb he rfl) fun _ _ _ t => tcb1 en t
theorem le_t1 {f : D → Option (D × Bool)} {n : Ex} {g : Str} {T : String} (hc : CallR X (.type T) (r1L (su X) f)) (en : ∀ ρ, ev Γ n ρ = un1 f (ev Γ x ρ)) (hv : bootBuiltins g = some (.type T)) (hn : g ≠ "__name__") (hdb : (g == ("__debug__" : Str)) = false)
    (hm : X.mg g = none) (hg : Gl X g) (ha : LE X Γ a x) (he : starEach [a] X.env = (false, eval a X.env) :: starEach [] X.env) : LE X Γ (.Call (.Name g p) [a] [] pos) n :=
  PE.imp (pe_callTy hc hg hm hv (pa_cons ha pa_nil he) hn hdb he rfl) fun _ _ _ t => tcb1 en t
theorem le_b2 {f : D → D → Option (D × Bool)} {n : Ex} {g : Str} {id : String} (hc : CallR X (.builtin id) (r2L (su X) f)) (en : ∀ ρ, ev Γ n ρ = bi1 f (ev Γ x ρ) (ev Γ y)) (hv : bootBuiltins g = some (.builtin id)) (hn : g ≠ "__name__") (hdb : (g == ("__debug__" : Str)) = false)
    (hm : X.mg g = none) (hg : Gl X g) (ha : LE X Γ a x) (hb : LE X Γ b y) (he : starEach [a, b] X.env = (false, eval a X.env) :: starEach [b] X.env) (he2 : starEach [b] X.env = (false, eval b X.env) :: starEach [] X.env) : LE X Γ (.Call (.Name g p) [a, b] [] pos) n :=
  PE.imp (pe_callB hc hg hm hv (pa_cons ha (pa_cons hb pa_nil he2) he) hn hdb he (by rw [he2]; rfl)) fun _ _ _ t => tcb2 en t
theorem le_len (hm : X.mg "len" = none) (hg : Gl X "len") (ha : LE X Γ a x) (he : starEach [a] X.env = (false, eval a X.env) :: starEach [] X.env := by rfl) : LE X Γ (.Call (.Name "len" p) [a] [] pos) (.len x) :=
  le_b1 (f := fun x => val1 (lenD x)) call_lenD (fun _ => rfl) boot_len (by decide) (by decide) hm hg ha he
theorem vals_fin {G : Gh} {ρ : Ro} {σ : L2.St} {H : Hp} {Q : VK} (R : Rel (su X) G ρ σ H) {d : D} {v : V} (k : ∀ v H', Same H H' → HdR (su X) G ρ σ H' (.d d false) v → Q v H') (r : ∀ H O, Rp (su X) H O d v) : Q v H := k v H (same_refl H) ⟨R, r _ _⟩
theorem call_absD : CallR X (.builtin "abs") (r1L (su X) fun x => val1 (absD x)) := by
  intro pins s σ' H xs us Q I r h
  obtain ⟨x, rfl, G, ρ, σ, a, d, own, e, R, ra, k⟩ := h
  obtain ⟨e1, rfl⟩ := val1_some e
  cases a <;> first | (cases e1; done) | skip
  rename_i i
  cases e1
  cases rv_int ra
  exact call_abs pins s σ' H _ us Q I r ⟨i, rfl, vals_fin R k fun _ _ => rfl⟩
theorem le_abs (hm : X.mg "abs" = none) (hg : Gl X "abs") (ha : LE X Γ a x) (he : starEach [a] X.env = (false, eval a X.env) :: starEach [] X.env := by rfl) : LE X Γ (.Call (.Name "abs" p) [a] [] pos) (.abs x) :=
  le_b1 (f := fun x => val1 (absD x)) call_absD (fun _ => rfl) (by decide +kernel) (by decide) (by decide) hm hg ha he
theorem call_intD : CallR X (.type "int") (r1L (su X) fun x => val1 (intD x)) := by
  intro pins s σ' H xs us Q I r h
  obtain ⟨x, rfl, G, ρ, σ, a, d, own, e, R, ra, k⟩ := h
  obtain ⟨e1, rfl⟩ := val1_some e
  cases a <;> first | (cases e1; done) | skip
  · rename_i b
    cases e1
    cases rv_bl ra
    exact call_int1 pins s σ' H _ us Q I r (.inr ⟨b, rfl, vals_fin R k fun _ _ => by cases b <;> rfl⟩)
  · rename_i i
    cases e1
    cases rv_int ra
    exact call_int1 pins s σ' H _ us Q I r (.inl ⟨i, rfl, vals_fin R k fun _ _ => rfl⟩)
theorem le_int1 (hm : X.mg "int" = none) (hg : Gl X "int") (ha : LE X Γ a x) (he : starEach [a] X.env = (false, eval a X.env) :: starEach [] X.env := by rfl) : LE X Γ (.Call (.Name "int" p) [a] [] pos) (.int x) :=
  le_t1 (f := fun x => val1 (intD x)) call_intD (fun _ => rfl) boot_int (by decide) (by decide) hm hg ha he
theorem call_strD : CallR X (.type "str") (r1L (su X) fun x => val1 (strD x)) := by
  intro pins s σ' H xs us Q I r h
  obtain ⟨x, rfl, G, ρ, σ, a, d, own, e, R, ra, k⟩ := h
  obtain ⟨e1, rfl⟩ := val1_some e
  cases a <;> first | (cases e1; done) | skip
  rename_i i
  have e1 : (if i.natAbs < 2 ^ 1000 then some (PyData.str (toString i)) else none) = some d := e1
  split at e1
  · rename_i hi
    cases e1
    cases rv_int ra
    refine call_str_int pins s σ' H _ us Q I r ⟨i, rfl, ?_, vals_fin R k fun _ _ => rfl⟩
    by_cases h0 : i.natAbs = 0
    · rw [h0]; decide
    · exact Nat.lt_trans ((Nat.log2_lt h0).mpr hi) (by decide)
  · cases e1
theorem le_str1 (hm : X.mg "str" = none) (hg : Gl X "str") (ha : LE X Γ a x) (he : starEach [a] X.env = (false, eval a X.env) :: starEach [] X.env := by rfl) : LE X Γ (.Call (.Name "str" p) [a] [] pos) (.str x) :=
  le_t1 (f := fun x => val1 (strD x)) call_strD (fun _ => rfl) boot_str (by decide) (by decide) hm hg ha he
theorem call_min2D (hc : X.calm = true) : CallR X (.builtin "min") (r2L (su X) fun x y => val1 (min2D x y)) := by
  intro pins s σ' H xs us Q I r h
  obtain ⟨x, y, rfl, G, ρ, σ, a, b, d, own, e, R, ra, rb, k⟩ := h
  obtain ⟨e1, rfl⟩ := val1_some e
  cases a <;> first | (cases e1; done) | skip
  cases b <;> first | (cases e1; done) | skip
  rename_i i j
  cases e1
  cases rv_int ra; cases rv_int rb
  exact call_min2 hc pins s σ' H _ us Q I r ⟨i, j, rfl, vals_fin R k fun _ _ => rfl⟩
theorem call_max2D (hc : X.calm = true) : CallR X (.builtin "max") (r2L (su X) fun x y => val1 (max2D x y)) := by
  intro pins s σ' H xs us Q I r h
  obtain ⟨x, y, rfl, G, ρ, σ, a, b, d, own, e, R, ra, rb, k⟩ := h
  obtain ⟨e1, rfl⟩ := val1_some e
  cases a <;> first | (cases e1; done) | skip
  cases b <;> first | (cases e1; done) | skip
  rename_i i j
  cases e1
  cases rv_int ra; cases rv_int rb
  exact call_max2 hc pins s σ' H _ us Q I r ⟨i, j, rfl, vals_fin R k fun _ _ => rfl⟩
theorem le_min2 (hc : X.calm = true) (hm : X.mg "min" = none) (hg : Gl X "min") (ha : LE X Γ a x) (hb : LE X Γ b y) (he : starEach [a, b] X.env = (false, eval a X.env) :: starEach [b] X.env := by rfl) (he2 : starEach [b] X.env = (false, eval b X.env) :: starEach [] X.env := by rfl) : LE X Γ (.Call (.Name "min" p) [a, b] [] pos) (.min2 x y) :=
  le_b2 (f := fun x y => val1 (min2D x y)) (call_min2D hc) (fun _ => rfl) (by decide +kernel) (by decide) (by decide) hm hg ha hb he he2
theorem le_max2 (hc : X.calm = true) (hm : X.mg "max" = none) (hg : Gl X "max") (ha : LE X Γ a x) (hb : LE X Γ b y) (he : starEach [a, b] X.env = (false, eval a X.env) :: starEach [b] X.env := by rfl) (he2 : starEach [b] X.env = (false, eval b X.env) :: starEach [] X.env := by rfl) : LE X Γ (.Call (.Name "max" p) [a, b] [] pos) (.max2 x y) :=
  le_b2 (f := fun x y => val1 (max2D x y)) (call_max2D hc) (fun _ => rfl) (by decide +kernel) (by decide) (by decide) hm hg ha hb he he2
/-! ### isinstance -/
def tyN : Ty → String
  | .int => "int" | .bool => "bool" | .tuple => "tuple" | .str => "str"
theorem rp_ty {U : Su} {H : Hp} {O : Addr → Prop} {d : D} {x : V} (r : Rv U H O d x) (nd : ∀ kvs, d ≠ .dict kvs) : ∃ T, TyX U.K H x (.type T) ∧ ∀ t, PySem.W.kitOne U.K (.type T) (.type (tyN t)) = some (isiD d t) := by
  cases d with
  | none => cases rv_non r; exact ⟨_, .base .non, fun t => by cases t <;> kernel_rfl⟩
  | bool b => cases rv_bl r; exact ⟨_, .base (.bl b), fun t => by cases t <;> kernel_rfl⟩
  | int b => cases rv_int r; exact ⟨_, .base (.int b), fun t => by cases t <;> kernel_rfl⟩
  | str b => cases rv_str r; exact ⟨_, .base (.str b), fun t => by cases t <;> kernel_rfl⟩
  | tuple ds =>
    obtain ⟨a, xs, rfl, q, _⟩ := rv_tup r
    refine ⟨"tuple", ?_, fun t => by cases t <;> kernel_rfl⟩
    rcases q with (q | ⟨o, q⟩) | ⟨o, its, n, e, c, _⟩
    · exact .base (.tup q)
    · exact .fTuple q
    · exact .kTuple e c
  | list ds =>
    obtain ⟨a, xs, rfl, q, _⟩ := rv_lst r
    refine ⟨"list", ?_, fun t => by cases t <;> kernel_rfl⟩
    rcases q with (q | ⟨o, q⟩) | ⟨o, its, n, e, c, _⟩
    · exact .base (.lst q)
    · exact .base (.frz q)
    · exact .kList e c
  | dict kvs => exact absurd rfl (nd kvs)
theorem le_isi {t : Ty} {T : Str} (hT : bootBuiltins T = some (.type (tyN t))) (hn : T ≠ "__name__") (hdb : (T == ("__debug__" : Str)) = false) (hm : X.mg "isinstance" = none) (hg : Gl X "isinstance") (hmT : X.mg T = none) (hgT : Gl X T) (ha : LE X Γ a x)
    (he : starEach [a, .Name T p2] X.env = (false, eval a X.env) :: starEach [.Name T p2] X.env := by rfl) (he2 : starEach [.Name T p2] X.env = (false, eval (.Name T p2) X.env) :: starEach [] X.env := by rfl) : LE X Γ (.Call (.Name "isinstance" p) [a, .Name T p2] [] pos) (.isi x t) := by
  refine PE.imp (pe_callB call_isi hg hm (by decide +kernel) (pa_cons ha (pa_cons (pe_bltn (v := .ty (tyN t)) hgT hmT hT rfl hn hdb) pa_nil he2) he) (by decide) (by decide) he (by rw [he2]; rfl)) fun σ H Q tt => ?_
  obtain ⟨G, ρ, h, ρ', E, R, k⟩ := tEv1 (f := fun x => isiO x t) (fun _ => rfl) tt
  refine ⟨G, ρ, h, ρ', E, R, fun v H1 F S r => ?_⟩
  obtain ⟨G1, ρ1, σ1, a, d, own, e, R1, ra, k1⟩ := k v H1 F S r
  have nd : ∀ kvs, a ≠ .dict kvs := fun kvs z => by subst z; cases e
  have e' : bool1 (some (isiD a t)) = some (d, own) := by
    cases a <;> first | exact e | (cases e; done)
  obtain ⟨r, e1, rfl, rfl⟩ := bool1_some e'
  cases e1
  obtain ⟨T', ty, kt⟩ := rp_ty ra nd
  exact ⟨v, .ty (tyN t), .type T', .type (tyN t), _, rfl, .ty _, ty, kt t, vals_fin R1 k1 fun _ _ => rfl⟩
/-! ### subscripts -/
theorem le_ix (hu : X.A.units + 200 < cLine) (hs : PlainIx b) (ha : LE X Γ a x) (hb : LE X Γ b y) : LE X Γ (.Subscript a b pos) (.ix x y) :=
  PE.imp (pe_ix (ix_data hu) ha hb hs) fun _ _ _ t => tEv2 (f := fun x y => val1 (ixD x y)) (fun _ => rfl) t
/-- a slice's ends -/
def PV (v : V) : Option Int → Prop
  | none => v = .non
  | some i => v = .int i
def tPt (U : Su) (Γ : Gam) (x : Ex) : TO := fun σ H Q => ∃ G ρ h ρ' y, ev Γ x ρ = some (h, ρ') ∧ h.get ρ' = some y ∧ okPart (isNoneK x) y = true ∧ Rel U G ρ σ H ∧ ∀ o v H', partD y = some o → Fr ρ σ H H' → Sb ρ' ρ σ → HdR U G ρ' σ H' h v → Q o H'
abbrev LP (X : Cx) (Γ : Gam) (e : Option Expr) (x : Ex) : Prop := PO X e (tPt (su X) Γ x)
theorem PO.imp {e : Option Expr} {t t' : TO} (h : PO X e t) (k : ∀ σ H Q, t' σ H Q → t σ H Q) : PO X e t' := ⟨fun pins s σ H Q I q => h.run pins s σ H Q I (k σ H Q q)⟩
theorem lp_none : LP X Γ none (.k .none) := PO.imp po_none fun σ H Q ⟨G, ρ, h, ρ', y, E, g, o, R, k⟩ => by
  cases E
  cases g
  exact k none .non H rfl .refl .refl ⟨R, rfl⟩
theorem lp_some (ha : LE X Γ a x) (hx : isNoneK x = false := by rfl) : LP X Γ (some a) x := PO.imp (po_some ha) fun σ H Q ⟨G, ρ, h, ρ', y, E, g, o, R, k⟩ => by
  rw [hx] at o
  refine one E R fun v H' F S r => ?_
  cases y with
  | int i => exact ⟨i, rv_int (r.get0G g), k _ v H' rfl F S r⟩
  | _ => cases o
theorem sl1_some {b1 b2 : Bool} {e : Option (Hd × Ro)} {g k : Ro → Option (Hd × Ro)} {r : Hd × Ro} (h : sl1 b1 b2 e g k = some r) :
    ∃ h1 ρ1 h2 ρ2 h3 ρ3 x y z d own, e = some (h1, ρ1) ∧ g ρ1 = some (h2, ρ2) ∧ h2.get ρ2 = some y ∧ okPart b1 y = true ∧ k ρ2 = some (h3, ρ3) ∧ h3.get ρ3 = some z ∧ h1.get ρ3 = some x ∧ okPart b2 z = true ∧ slD x y z = some (d, own) ∧ r = (.d d own, ρ3) := by
  unfold sl1 at h
  split at h
  · cases h
  · rename_i h1 ρ1
    split at h
    · cases h
    · rename_i h2 ρ2 e2
      split at h
      · cases h
      · rename_i y g2
        split at h
        · rename_i o1
          split at h
          · cases h
          · rename_i h3 ρ3 e3
            split at h
            · rename_i z x g3 g1
              split at h
              · rename_i o2
                split at h
                · cases h
                · rename_i d own q
                  cases h
                  exact ⟨h1, ρ1, h2, ρ2, h3, ρ3, x, y, z, d, own, rfl, e2, g2, o1, e3, g3, g1, o2, q, rfl⟩
              · cases h
            · cases h
        · cases h
theorem okPart_some {b : Bool} {y : D} (o : okPart b y = true) : ∃ p, partD y = some p := by
  cases y <;> first | exact ⟨_, rfl⟩ | (cases o; done)
theorem le_slc {lo hi : Option Expr} (ha : LE X Γ a x) (hl : LP X Γ lo y) (hh : LP X Γ hi z) : LE X Γ (.Subscript a (.Slice lo hi none p2) pos) (.slc x y z) := by
  refine PE.imp (pe_slice sl_data ha hl hh) fun σ H Q ⟨G, ρ, h, ρ', E, R, k⟩ => ?_
  obtain ⟨h1, ρ1, h2, ρ2, h3, ρ3, dx, dy, dz, d, own, E1, E2, g2, o1, E3, g3, g1, o2, e, q⟩ := sl1_some (show sl1 _ _ _ _ _ = _ from E)
  obtain ⟨rfl, rfl⟩ := Prod.mk.inj q
  refine one E1 R fun v1 H1 F1 S1 r1 => ⟨gh G h1 v1, ρ1, h2, ρ2, dy, E2, g2, o1, r1.rel, fun p v2 H2 ep F2 S2 r2 => ⟨gh (gh G h1 v1) h2 v2, ρ2, h3, ρ', dz, E3, g3, o2, r2.rel, fun q v3 H3 eq F3 S3 r3 => ?_⟩⟩
  exact ⟨G, ρ', σ, dx, dy, dz, d, own, e, ep, eq, r3.relG.un.un, r1.getG (F2.trans S2 F3) (S3.trans S2) r3.relG.un g1,
    fun w H4 s r => k w H4 (((F1.trans S1 F2).trans (S2.trans S1) F3).and_same s) ((S3.trans S2).trans S1) r⟩
end
end LT
end
section
set_option linter.all false
set_option maxRecDepth 100000
/-! Walks: a dict that stands as one object, a tuple counted. -/
namespace LT
open PySem PySem.Spec PyProof.Rows L2
/-- keys of the dict o at d -/
def Yk (d : Addr) (o : Obj) (es : Array DictEntry) : L2.It :=
  ⟨fun i H => H d = some (.ext (exO d o)) ∧ ∃ e x, es[i]? = some e ∧ RelV x e.key, fun i H x H' => H' = H ∧ ∃ e, es[i]? = some e ∧ RelV x e.key, fun i H => H d = some (.ext (exO d o)) ∧ es.size ≤ i⟩
def Yv (d : Addr) (o : Obj) (es : Array DictEntry) : L2.It :=
  ⟨fun i H => H d = some (.ext (exO d o)) ∧ ∃ e x, es[i]? = some e ∧ RelV x e.val, fun i H x H' => H' = H ∧ ∃ e, es[i]? = some e ∧ RelV x e.val, fun i H => H d = some (.ext (exO d o)) ∧ es.size ≤ i⟩
def Yi (d : Addr) (o : Obj) (es : Array DictEntry) : L2.It :=
  ⟨fun i H => H d = some (.ext (exO d o)) ∧ ∃ e x y, es[i]? = some e ∧ RelV x e.key ∧ RelV y e.val, fun i H v H' => ∃ T e x y, v = .ref T ∧ H T = none ∧ H' = upd H T (.tup [x, y]) ∧ es[i]? = some e ∧ RelV x e.key ∧ RelV y e.val, fun i H => H d = some (.ext (exO d o)) ∧ es.size ≤ i⟩
section
variable {P : Program} {w : World} {K : PySem.W.Frag} {tg : Expr} {d : Addr} {o : Obj} {es : Array DictEntry} {ep : Nat}
theorem raw_of {X : Cx} {pins : List (Addr × Obj)} {σ : L2.St} {H : Hp} {s : Shared} (I : Inv X pins σ H s) (e : H d = some (.ext (exO d o))) (x : o.ExactDict) (h : o.data = .dict es ep) : s.heap.DictRaw d es ep := ⟨o, ext_phi I e, x, h⟩
theorem turn_yk (it : Addr) (hx : o.ExactDict) (hod : o.data = .dict es ep) : Turn P w K tg (Yk d o es) [it] it (fun i h => h.IsKeyIter it d i es.size ep) where
  mem := by simp
  obj := fun i h st b hb => by
    have e : b = it := by simpa using hb
    subst e
    obtain ⟨oi, e, c, dd⟩ := st
    exact ⟨oi, e, fun v z => by rw [dd] at z; cases z⟩
  keep := fun i h h' st k => st.at fun oi e => k it (by simp) oi e
  item := by
    intro X hP hw hK hc i pins s σ H E I hf st hg
    subst hP hw hK
    obtain ⟨hd, en, x, he, rx⟩ := hg
    obtain ⟨f0, f1, f2, f3, f4, f5⟩ := hf it (by simp)
    obtain ⟨hi, rfl⟩ := Array.getElem?_eq_some_iff.mp he
    refine wpAny_pyNext_keys_item_raw st (raw_of I hd hx hod) hi fun h' st' sb => ?_
    have I1 : Inv X pins σ H { s with heap := h' } := I.turned (t' := s.toks) (fun b ob hb e => (sb.2 b hb).trans e) f0 f1 f3 f4 f5
    obtain ⟨oi, e, c, dd⟩ := id st'
    exact ⟨_, rfl, go_of (s := { s with heap := h' }) e c dd (by decide) ⟨x, H, I1, rx, ⟨rfl, _, he, rx⟩, st', fun b hb => (hf b hb).1⟩⟩
  done := by
    intro X hP hw hK hc i pins s σ H E I hf st hg
    subst hP hw hK
    obtain ⟨hd, hi⟩ := hg
    obtain ⟨f0, f1, f2, f3, f4, f5⟩ := hf it (by simp)
    exact wpAny_pyNext_keys_end_raw (I.ok.hd hc) st (raw_of I hd hx hod) hi fun h' eb => ⟨rfl, I.turned (t' := s.toks) (fun b ob hb e => eb b ob hb e) f0 f1 f3 f4 f5⟩
  self := fun A i s Q E st h => wpAny_pyIter_keyiter st h
theorem turn_yv (it : Addr) (hx : o.ExactDict) (hod : o.data = .dict es ep) : Turn P w K tg (Yv d o es) [it] it (fun i h => h.IsValIter it d i es.size ep) where
  mem := by simp
  obj := fun i h st b hb => by
    have e : b = it := by simpa using hb
    subst e
    obtain ⟨oi, e, c, dd⟩ := st
    exact ⟨oi, e, fun v z => by rw [dd] at z; cases z⟩
  keep := fun i h h' st k => st.at fun oi e => k it (by simp) oi e
  item := by
    intro X hP hw hK hc i pins s σ H E I hf st hg
    subst hP hw hK
    obtain ⟨hd, en, x, he, rx⟩ := hg
    obtain ⟨f0, f1, f2, f3, f4, f5⟩ := hf it (by simp)
    obtain ⟨hi, rfl⟩ := Array.getElem?_eq_some_iff.mp he
    refine wpAny_pyNext_values_item_raw st (raw_of I hd hx hod) hi fun h' st' sb => ?_
    have I1 : Inv X pins σ H { s with heap := h' } := I.turned (t' := s.toks) (fun b ob hb e => (sb.2 b hb).trans e) f0 f1 f3 f4 f5
    obtain ⟨oi, e, c, dd⟩ := id st'
    exact ⟨_, rfl, go_of (s := { s with heap := h' }) e c dd (by decide) ⟨x, H, I1, rx, ⟨rfl, _, he, rx⟩, st', fun b hb => (hf b hb).1⟩⟩
  done := by
    intro X hP hw hK hc i pins s σ H E I hf st hg
    subst hP hw hK
    obtain ⟨hd, hi⟩ := hg
    obtain ⟨f0, f1, f2, f3, f4, f5⟩ := hf it (by simp)
    exact wpAny_pyNext_values_end_raw (I.ok.hd hc) st (raw_of I hd hx hod) hi fun h' eb => ⟨rfl, I.turned (t' := s.toks) (fun b ob hb e => eb b ob hb e) f0 f1 f3 f4 f5⟩
  self := fun A i s Q E st h => wpAny_pyIter_valiter st h
theorem turn_yi {elts : List Expr} {kk : Nat} {tpos : Pos} (it : Addr) (hx : o.ExactDict) (hod : o.data = .dict es ep) : Turn P w K (.Tuple elts kk tpos) (Yi d o es) [it] it (fun i h => ∃ ok ov, IsItemIter h it d i es.size ep ok ov) where
  mem := by simp
  obj := fun i h st b hb => by
    have e : b = it := by simpa using hb
    subst e
    obtain ⟨ok, ov, e⟩ := st
    exact ⟨_, e, fun v z => nomatch z⟩
  keep := fun i h h' st k => let ⟨ok, ov, e⟩ := st; ⟨ok, ov, k it (by simp) _ e⟩
  item := by
    intro X hP hw hK hc i pins s σ H E I hf st hg
    subst hP hw hK
    obtain ⟨hd, en, x, y, he, rx, ry⟩ := hg
    obtain ⟨ok, ov, hit⟩ := st
    obtain ⟨hi, rfl⟩ := Array.getElem?_eq_some_iff.mp he
    have hlt : it < s.heap.objs.size := Heap.lt_size hit
    refine wpAny_pyNext_items_item_raw hit (raw_of I hd hx hod) hi fun h' ho hT hz hk => ?_
    refine ⟨_, rfl, wpAny_letOwnedTupleGo_items (s := { s with heap := h' }) ho fun h'' he' sb => ?_⟩
    have hT2 : h''.get? s.heap.objs.size = some { cls := .type "tuple", data := .seq #[es[i].key, es[i].val] } := (sb.2 _ (Nat.ne_of_gt hlt)).trans hT
    have new : ObjOk X.prog X.w (upd H s.heap.objs.size (.tup [x, y])) h'' s.heap.objs.size (.tup [x, y]) :=
      ⟨by show 2 ≤ sizeLine; decide, [es[i].key, es[i].val], .cons rx (.cons ry .nil), ⟨_, hT2, rfl, _, rfl⟩⟩
    have I1 : Inv X pins σ (upd H s.heap.objs.size (.tup [x, y])) { s with heap := h'' } :=
      I.turnedNew (t' := s.toks) (ch := [it]) (fun b ob hb e => (sb.2 b (by simpa using hb)).trans (hk b ob (by simpa using hb) e)) hf (Nat.le_refl _) new
    refine ⟨.ref s.heap.objs.size, _, I1, rfl, ⟨_, _, x, y, rfl, I.hok.fresh (Nat.le_refl _), rfl, he, rx, ry⟩, ⟨_, _, he'⟩, fun b hb => ?_⟩
    have e : b = it := by simpa using hb
    rw [e, upd_ne (Nat.ne_of_lt hlt)]
    exact (hf it (by simp)).1
  done := by
    intro X hP hw hK hc i pins s σ H E I hf st hg
    subst hP hw hK
    obtain ⟨hd, hi⟩ := hg
    obtain ⟨f0, f1, f2, f3, f4, f5⟩ := hf it (by simp)
    obtain ⟨ok, ov, hit⟩ := st
    exact wpAny_pyNext_items_end_raw (I.ok.hd hc) hit (raw_of I hd hx hod) hi fun h' eb => ⟨rfl, I.turned (t' := s.toks) (fun b ob hb e => eb b ob hb e) f0 f1 f3 f4 f5⟩
  self := fun A i s Q E st h => let ⟨_, _, e⟩ := st; wpAny_pyIter_itemiter e h
/-- enumerate of a tuple -/
def YeT (K : PySem.W.Frag) (a : Addr) : L2.It :=
  ⟨fun i H => ∃ (xs : List V) (x : V), SqT K H a xs ∧ xs[i]? = some x, fun i H v H' => ∃ T x, v = .ref T ∧ H T = none ∧ H' = upd H T (.tup [.int (i : Nat), x]) ∧ ∀ xs, SqT K H a xs → xs[i]? = some x, fun i H => ∃ xs : List V, SqT K H a xs ∧ xs.length ≤ i⟩
theorem turn_yeT {elts : List Expr} {kk : Nat} {tpos : Pos} (a e it : Addr) (hai : a ≠ it) (hae : a ≠ e) :
    Turn P w K (.Tuple elts kk tpos) (YeT K a) [e, it] e (fun i h => (∃ old, IsEnum h e it ((i : Nat) : Int) old) ∧ h.IsTupleIter it a i ∧ e ≠ it) where
  mem := by simp
  obj := fun i h st b hb => by
    obtain ⟨⟨old, he⟩, ⟨o, ho, hc, hd⟩, _⟩ := st
    have e' : b = e ∨ b = it := by simpa using hb
    rcases e' with z | z
    · rw [z]; exact ⟨_, he, fun v q => nomatch q⟩
    · rw [z]; exact ⟨o, ho, fun v q => by rw [hd] at q; cases q⟩
  keep := fun i h h' st k => let ⟨⟨old, he⟩, hi, hne⟩ := st; ⟨⟨old, k e (by simp) _ he⟩, hi.at fun o q => k it (by simp) o q, hne⟩
  item := by
    intro X hP hw hK hc i pins s σ H E I hf st hg
    subst hP hw hK
    obtain ⟨⟨old, he⟩, hit, hne⟩ := st
    obtain ⟨xs, x, hq, hx⟩ := hg
    obtain ⟨its, rv, p, hz⟩ := I.tuple hq
    obtain ⟨u, hu, ru⟩ := rv.get hx
    have hel : e < s.heap.objs.size := Heap.lt_size he
    have hil : it < s.heap.objs.size := by obtain ⟨_, q, _⟩ := hit; exact Heap.lt_size q
    have Dr := Draws.tuple (prog := X.prog) (w := X.w) (A := X.A.in1) (show X.A.in1.handled = none from I.ok.hd hc) it a hai its.toArray
    have hilt : i < its.toArray.size := by
      have := (List.getElem?_eq_some_iff.mp hu).1
      simpa using this
    refine wpAny_pyNext_enum_itemD Dr he ⟨hit, show s.heap.IsTuple a its.toArray from p⟩ hilt hne (by simp [hne, Ne.symm hae]) fun u' h' tk hu' ho hst' hT hsz hk => ?_
    have eu : u' = u := by
      have q : its.toArray[i]? = some u := by simpa using hu
      rw [q] at hu'; exact (Option.some.inj hu').symm
    subst eu
    have hit' := hst'.1
    refine ⟨_, rfl, wpAny_letOwnedTupleGo_enum (s := { s with heap := h', toks := tk + 1 }) ho fun h'' he' sb => ?_⟩
    have hT2 : h''.get? s.heap.objs.size = some { cls := .type "tuple", data := .seq #[.int i tk, u'] } := (sb.2 _ (Nat.ne_of_gt hel)).trans hT
    have new : ObjOk X.prog X.w (upd H s.heap.objs.size (.tup [.int (i : Nat), x])) h'' s.heap.objs.size (.tup [.int (i : Nat), x]) :=
      ⟨by show 2 ≤ sizeLine; decide, [.int i tk, u'], .cons ⟨_, rfl⟩ (.cons ru .nil), ⟨_, hT2, rfl, _, rfl⟩⟩
    have I1 : Inv X pins σ (upd H s.heap.objs.size (.tup [.int (i : Nat), x])) { s with heap := h'', toks := tk + 1 } :=
      I.turnedNew (ch := [e, it]) (fun b ob hb q => (sb.2 b (fun z => hb (by simp [z]))).trans (hk b ob (fun z => hb (by simp [z])) (fun z => hb (by simp [z])) q)) hf (Nat.le_refl _) new
    refine ⟨.ref s.heap.objs.size, _, I1, rfl, ⟨_, x, rfl, I.hok.fresh (Nat.le_refl _), rfl, fun ys hy => by rw [I.tuple_inj hy hq]; exact hx⟩, ⟨⟨u', ?_⟩, hit'.at fun o q => (sb.2 it (Ne.symm hne)).trans q, hne⟩, fun b hb => ?_⟩
    · have e1 : ((i + 1 : Nat) : Int) = (i : Int) + 1 := by omega
      rw [e1]; exact he'
    · have hb' : b < s.heap.objs.size := by
        have e' : b = e ∨ b = it := by simpa using hb
        rcases e' with z | z
        · rw [z]; exact hel
        · rw [z]; exact hil
      rw [upd_ne (Nat.ne_of_lt hb')]
      exact (hf b hb).1
  done := by
    intro X hP hw hK hc i pins s σ H E I hf st hg
    subst hP hw hK
    obtain ⟨⟨old, he⟩, hit, hne⟩ := st
    obtain ⟨xs, hq, hx⟩ := hg
    obtain ⟨its, rv, p, hz⟩ := I.tuple hq
    obtain ⟨f0, f1, f2, f3, f4, f5⟩ := hf it (by simp)
    have hl := rv.length
    have hT : s.TypeIs (.ref e) "enumerate" := ⟨_, he, rfl⟩
    unfold pyNext
    refine wpAny_bind (wpAny_attempt (wpAny_callSpecial?_slot (name := Str.ofString "__next__") hT F.slot_enumerate_next
      (wpAny_call_entry F.slot_enumerate_next hT F.entry_enumerate_next ?_ (F.args_enumerate_next_1 _))))
    show wpAny _ _ (field (.ref e) 2 >>= _) _ _ _
    refine wpAny_bind (wpAny_field he rfl (x := .ref it) rfl ?_)
    refine wpAny_bind (wpAny_nextOf_tuple_end (show X.A.in1.handled = none from I.ok.hd hc) hit (show s.heap.IsTuple a its.toArray from p) (by simp; omega) fun h' x he' hx' => ?_)
    obtain ⟨ob, ho, hcl⟩ := hx'
    refine wpAny_bind (wpAny_isInstance (T := "StopIteration") (b := true) ⟨ob, ho, hcl⟩ isSubtype_stop ?_)
    exact wpAny_pure ⟨rfl, I.turned (t' := s.toks) (fun b o hb q => he' b o hb q) f0 f1 f3 f4 f5⟩
  self := fun A i s Q E st h => let ⟨⟨_, he⟩, _⟩ := st; wpAny_pyIter_enum he h
end
set_option maxHeartbeats 1000000 in
theorem meets_enumerate_newB1 {v : Value} {o : Obj} {H : Heap → Prop} (B : Begins v o H) :
    Meets (Builtin.«enumerate.__new__» ⟨[.type "enumerate", v], []⟩) (fun _ R s => H s.heap ∧
      R (.ok (.ret (.ref (s.heap.push o).objs.size))) { s with heap := (s.heap.push o).push { cls := .type "enumerate", data := .fields #[.none, .bool false, .ref s.heap.objs.size, rawInt 0, .none, .none] } }) :=
  .of_wp fun prog w A R s h => by
    obtain ⟨hp, g, d, tk, os⟩ := s; obtain ⟨h1, h⟩ := h
    have hsub := sub_enumerate
    have q1 : ∀ {A' : Around} {E : Value → Shared → Prop} {Q : Value → Shared → Prop}, Q (.ref hp.objs.size) ⟨hp.push o, g, d, tk, os⟩ → wpAny (model prog w) A' (pyIter v) Q E ⟨hp, g, d, tk, os⟩ :=
      fun q => B.iter prog w _ _ ⟨hp, g, d, tk, os⟩ _ h1 q
    wp_walk using q1
    refine wpAny_stack_any fun st => wpAny_pure ?_
    split
    · rename_i c _ _ _ _ _
      cases (c == Value.type "enumerate")
      · wp_walk using q1
        exact ⟨_, rfl, h⟩
      · wp_walk using q1
        exact ⟨_, rfl, h⟩
    · wp_walk using q1
      exact ⟨_, rfl, h⟩
theorem enum_begins1 {prog : Program} {w : World} {A : Around} {E : Value → Shared → Prop} {s : Shared} {v : Value} {o : Obj} {H : Heap → Prop} {Q : Value → Shared → Prop} (B : Begins v o H) (h1 : H s.heap)
    (h : ∀ h', IsEnum h' (s.heap.objs.size + 1) s.heap.objs.size 0 .none → h'.get? s.heap.objs.size = some o → h'.objs.size = s.heap.objs.size + 2 →
      (∀ b o, s.heap.get? b = some o → h'.get? b = some o) → Q (.ref (s.heap.objs.size + 1)) { s with heap := h' }) :
    wpAny (model prog w) A (call (.type "enumerate") [v]) Q E s := by
  refine callType_new F.called_enumerate (by decide) (F.typeCall_enumerate_1 _) (F.newCall_enumerate_1 _) (fun obj => F.args_object_init_2 obj _) F.entry_enumerate_new
    (meets_enumerate_newB1 B) ⟨h1, ?_⟩
  have hz : (s.heap.push o).objs.size = s.heap.objs.size + 1 := Heap.size_push ..
  show _ ∧ _
  rw [hz]
  have he : IsEnum ((s.heap.push o).push { cls := .type "enumerate", data := .fields #[.none, .bool false, .ref s.heap.objs.size, rawInt 0, .none, .none] }) (s.heap.objs.size + 1) s.heap.objs.size 0 .none := by
    have := Heap.get?_push_size (s.heap.push o) (o := { cls := .type "enumerate", data := .fields #[.none, .bool false, .ref s.heap.objs.size, rawInt 0, .none, .none] }) rfl
    rw [hz] at this; exact this
  refine ⟨⟨_, he, rfl⟩, h _ he (Heap.get?_push_of_some _ (Heap.get?_push_size _ B.free)) (by rw [Heap.size_push, hz]) fun b o x => Heap.get?_push_of_some _ (Heap.get?_push_of_some _ x)⟩
end LT
end
section
set_option linter.all false
set_option maxRecDepth 100000
/-! What a loop walks, as data. -/
namespace LT
open PySem PySem.Spec PyProof.Rows L2
def Kp (M : Addr → Prop) (H H2 : Hp) : Prop := ∀ b u, H b = some u → ¬ M b → H2 b = some u
/-- what may change while a loop runs -/
def Mb (G : Gh) (ρ : Ro) (σ : L2.St) (b : Addr) : Prop := Mu ρ σ b ∨ ∃ i, G.A i b
structure Lat (P M : Addr → Prop) (H H2 : Hp) (P2 : Addr → Prop) : Prop where
  kp : Kp M H H2
  pr : ∀ b, P2 b → H2 b ≠ none
  old : ∀ b, P2 b → P b ∨ H b = none
structure Yl (U : Su) (P M : Addr → Prop) (H : Hp) (J : L2.It) (ds : List D) : Prop where
  go : ∀ i H2, Kp M H H2 → i < ds.length → J.go i H2
  yld : ∀ i H2 P2 x H3, Lat P M H H2 P2 → i < ds.length → J.yld i H2 x H3 → ∃ d, ds[i]? = some d ∧ Same H2 H3 ∧ Rp U H3 P2 d x
  stop : ∀ i H2, Kp M H H2 → ds.length ≤ i → J.stop i H2
/-- an iterator's reading -/
def tItr (U : Su) (Γ : Gam) (it : It) : TI := fun σ H R => ∃ G ρ ds ρ', evI Γ it ρ = some (ds, ρ') ∧ Rel U G ρ σ H ∧ ∀ J H', Fr ρ σ H H' → Sb ρ' ρ σ → Rel U G ρ' σ H' → Yl U (Pr G ρ' σ) (Mb G ρ' σ) H' J ds → R J H'
section
variable {U : Su} {G : Gh} {ρ ρ' ρ1 : Ro} {σ : L2.St} {H H' H2 : Hp} {v : V} {P M : Addr → Prop} {ds es : List D} {d : D}
theorem Mb.pr {b : Addr} (m : Mb G ρ σ b) : Pr G ρ σ b := by
  rcases m with m | ⟨i, m⟩
  · exact .inr m
  · exact .inl (G.ao i b m)
theorem Lat.mv {P2 : Addr → Prop} (hm : ∀ b, M b → P b) (k : Lat P M H H2 P2) : Mv H P H2 P2 := fun b u e n => ⟨k.kp b u e fun z => n (hm b z), fun z => by
  rcases k.old b z with q | q
  · exact n q
  · rw [q] at e; cases e⟩
theorem RpL.kept {P2 : Addr → Prop} {xs : List V} (hm : ∀ b, M b → P b) (k : Lat P M H H2 P2) (r : RpL U H P ds xs) : RpL U H2 P2 ds xs := r.move (k.mv hm)
theorem Rp.kept {P2 : Addr → Prop} {x : V} (hm : ∀ b, M b → P b) (k : Lat P M H H2 P2) (r : Rp U H P d x) : Rp U H2 P2 d x := Rp.move (k.mv hm) _ _ r
/-- a walked list, tuple -/
theorem Wv.lst (R : Rel U G ρ σ H) (w : Wv U G ρ σ H (.list ds) v) : ∃ a xs, v = .ref a ∧ (∀ H2, Kp (Mb G ρ σ) H H2 → SqL U.K H2 a xs) ∧ RpL U H (Pr G ρ σ) ds xs := by
  rcases w with ⟨a, xs, e, ⟨q, n⟩ | q, r⟩ | ⟨a, e, ⟨xs, q, r⟩, b⟩
  · refine ⟨a, xs, e, fun H2 k => .inl ?_, r⟩
    have nm : ¬ Mb G ρ σ a := fun z => n z.pr
    rcases q with q | ⟨o, q⟩
    · exact .inl (k _ _ q nm)
    · exact .inr ⟨o, k _ _ q nm⟩
  · exact ⟨a, xs, e, fun H2 k => q.lst, r⟩
  · refine ⟨a, xs, e, fun H2 k => .inl ?_, r⟩
    have nm : ¬ Mb G ρ σ a := fun z => by
      rcases z with z | ⟨i, z⟩
      · exact R.bo_mu b z
      · exact (G.bi a b).2 (G.ai i a z)
    rcases q with q | ⟨o, q⟩
    · exact .inl (k _ _ q nm)
    · exact .inr ⟨o, k _ _ q nm⟩
theorem Wv.tup (w : Wv U G ρ σ H (.tuple ds) v) : ∃ a xs, v = .ref a ∧ (∀ H2, Kp (Mb G ρ σ) H H2 → SqT U.K H2 a xs) ∧ RpL U H (Pr G ρ σ) ds xs := by
  rcases w with ⟨a, xs, e, q, r⟩ | ⟨a, e, c, b⟩
  · refine ⟨a, xs, e, fun H2 k => ?_, r⟩
    rcases q with ⟨q, n⟩ | q
    · have nm : ¬ Mb G ρ σ a := fun z => n z.pr
      rcases q with q | ⟨o, q⟩
      · exact .inl (.inl (k _ _ q nm))
      · exact .inl (.inr ⟨o, k _ _ q nm⟩)
    · exact q.tup
  · exact c.elim
theorem sqL_uniq {K : PySem.W.Frag} {X : Cx} {pins : List (Addr × Obj)} {σ : L2.St} {s : Shared} {a : Addr} {xs ys : List V} (I : Inv X pins σ H s) (h : SqL X.K H a xs) (h' : SqL X.K H a ys) : xs = ys := I.list_inj h h'
/-- a dict's entries -/
structure Ents (U : Su) (H : Hp) (O : Addr → Prop) (kvs : List (D × D)) (a : Addr) (o : Obj) (es : Array DictEntry) (ep : Nat) : Prop where
  at_ : H a = some (.ext (exO a o))
  ex : o.ExactDict
  dt : o.data = .dict es ep
  sys : (a == sysModules) = false
  sz : es.size = kvs.length
  en : ∀ (i : Nat) (e : DictEntry), es[i]? = some e → ∃ k d x y, kvs[i]? = some (k, d) ∧ RelV x e.key ∧ Rp U H O k x ∧ RelV y e.val ∧ Rp U H O d y
theorem rpT_ents {O : Addr → Prop} : ∀ {kvs : List (D × D)} {xs : List (NestedKey × Addr × Value)}, RpT U H O kvs xs → kvs.length = xs.length ∧ ∀ (i : Nat) q, xs[i]? = some q → ∃ k d x y, kvs[i]? = some (k, d) ∧ RelV x (.ref q.2.1) ∧ Rp U H O k x ∧ RelV y q.2.2 ∧ Rp U H O d y
  | [], _, h => by cases h; exact ⟨rfl, fun i q z => by simp at z⟩
  | (k, d) :: r, _, h => by
    obtain ⟨n', b, u, v, xr, rfl, h1, h2, h3, h4, h5, h6⟩ := h
    obtain ⟨l, f⟩ := rpT_ents h6
    refine ⟨by simp [l], fun i q z => ?_⟩
    cases i with
    | zero =>
      simp at z
      subst z
      exact ⟨k, d, .ref b, v, by simp, rfl, h3, h4, h5⟩
    | succ i =>
      simp at z
      obtain ⟨k', d', x, y, e, r⟩ := f i q z
      exact ⟨k', d', x, y, by simpa using e, r⟩
theorem relV_toKey {w : World} {Pg : Program} {k : D} {ky : Key} {u : Value} {O : Addr → Prop} (e : toKey k = some ky) (q : (mixKind Pg w).is ky u = true) : ∃ x, RelV x u ∧ Rp U H O k x := by
  have q : keyIs ky u = true := q
  have r := relV_key q
  cases k with
  | int i => cases e; exact ⟨_, r, rfl⟩
  | str i => cases e; exact ⟨_, r, rfl⟩
  | _ => cases e
theorem rpM_ents {O : Addr → Prop} {w : World} {Pg : Program} : ∀ {kvs : List (D × D)} {ys : List (Key × Value)} {es : List DictEntry}, RpM U H O kvs ys → Pairs (mixKind Pg w) es ys → kvs.length = es.length ∧ ∀ (i : Nat) e, es[i]? = some e → ∃ k d x y, kvs[i]? = some (k, d) ∧ RelV x e.key ∧ Rp U H O k x ∧ RelV y e.val ∧ Rp U H O d y
  | [], _, es, h, p => by
    cases h
    cases p
    exact ⟨rfl, fun i q z => by simp at z⟩
  | (k, d) :: r, _, es, h, p => by
    obtain ⟨n', u, v, yr, rfl, h1, h4, h5, h6⟩ := h
    cases p with
    | cons hk hv ht =>
      obtain ⟨l, f⟩ := rpM_ents h6 ht
      refine ⟨by simp [l], fun i q z => ?_⟩
      cases i with
      | zero =>
        simp at z
        subst z
        obtain ⟨x, rx, px⟩ := relV_toKey (U := U) (H := H) (O := O) h1 hk
        exact ⟨k, d, x, v, by simp, rx, px, by rw [hv]; exact h4, h5⟩
      | succ i =>
        simp at z
        obtain ⟨k', d', x, y, e, r⟩ := f i q z
        exact ⟨k', d', x, y, by simpa using e, r⟩
theorem CtD.ents {O : Addr → Prop} {kvs : List (D × D)} {a : Addr} (c : CtD U H O kvs a) (no : isObj kvs = false) : ∃ o es ep, Ents U H O kvs a o es ep := by
  rw [objTag_isObj] at no
  rcases c with ⟨_, ⟨xs, ⟨z, hs, nd, o, es, ep, e, x, dt, en⟩, r⟩ | ⟨ys, ⟨z, hs, o, es, ep, e, x, dt, _, pr, nd⟩, r⟩⟩ | ⟨c, _, _, _, t, _⟩
  · obtain ⟨l, f⟩ := rpT_ents r
    refine ⟨o, es, ep, e, x, dt, hs, ?_, fun i q z => ?_⟩
    · have := size_of_entries en
      omega
    · have q2 := entry_at en i
      rw [z] at q2
      cases q3 : xs[i]? with
      | none => rw [q3] at q2; cases q2
      | some p =>
        rw [q3] at q2
        cases q2
        exact f i p q3
  · obtain ⟨l, f⟩ := rpM_ents r pr
    refine ⟨o, es, ep, e, x, dt, hs, by rw [l]; simp, fun i q z => f i q (by simpa using z)⟩
  · rw [t] at no; cases no
theorem Ents.kept {P2 : Addr → Prop} {kvs : List (D × D)} {a : Addr} {o : Obj} {es : Array DictEntry} {ep : Nat} (E : Ents U H P kvs a o es ep) (hm : ∀ b, M b → P b) (n : ¬ M a) (k : Lat P M H H2 P2) : Ents U H2 P2 kvs a o es ep :=
  ⟨k.kp _ _ E.at_ n, E.ex, E.dt, E.sys, E.sz, fun i e z => let ⟨k', d, x, y, h1, h2, h3, h4, h5⟩ := E.en i e z; ⟨k', d, x, y, h1, h2, h3.kept hm k, h4, h5.kept hm k⟩⟩
theorem Wv.dct (R : Rel U G ρ σ H) {kvs : List (D × D)} (no : isObj kvs = false) (w : Wv U G ρ σ H (.dict kvs) v) : ∃ a o es ep, v = .ref a ∧ Ents U H (Pr G ρ σ) kvs a o es ep ∧ ¬ Mb G ρ σ a := by
  rcases w with ⟨a, e, n, c⟩ | ⟨a, e, c, b⟩
  · obtain ⟨o, es, ep, E⟩ := CtD.ents c no
    exact ⟨a, o, es, ep, e, E, fun z => n z.pr⟩
  · obtain ⟨o, es, ep, E⟩ := CtD.ents c no
    exact ⟨a, o, es, ep, e, E, fun z => by
      rcases z with z | ⟨i, z⟩
      · exact R.bo_mu b z
      · exact (G.bi a b).2 (G.ai i a z)⟩
/-! ### each iterator yields the data -/
theorem yl_list {a : Addr} {xs : List V} (hm : ∀ b, M b → P b) (h : ∀ H2, Kp M H H2 → SqL U.K H2 a xs) (r : RpL U H P ds xs) : Yl U P M H (Itl U.K a) ds where
  go := fun i H2 k hi => ⟨xs, xs[i]'(by rw [← r.length]; exact hi), h H2 k, List.getElem?_eq_getElem _⟩
  yld := fun i H2 P2 x H3 k hi ⟨e, y⟩ => by
    subst e
    have q := y xs (h _ k.kp)
    obtain ⟨x', ex, rx⟩ := (r.kept hm k).get (List.getElem?_eq_getElem hi)
    rw [q] at ex
    cases ex
    exact ⟨_, List.getElem?_eq_getElem hi, same_refl _, rx⟩
  stop := fun i H2 k hi => ⟨xs, h H2 k, by rw [← r.length]; exact hi⟩
theorem yl_tup {a : Addr} {xs : List V} (hm : ∀ b, M b → P b) (h : ∀ H2, Kp M H H2 → SqT U.K H2 a xs) (r : RpL U H P ds xs) : Yl U P M H (Itt U.K a) ds where
  go := fun i H2 k hi => ⟨xs, xs[i]'(by rw [← r.length]; exact hi), h H2 k, List.getElem?_eq_getElem _⟩
  yld := fun i H2 P2 x H3 k hi ⟨e, y⟩ => by
    subst e
    have q := y xs (h _ k.kp)
    obtain ⟨x', ex, rx⟩ := (r.kept hm k).get (List.getElem?_eq_getElem hi)
    rw [q] at ex
    cases ex
    exact ⟨_, List.getElem?_eq_getElem hi, same_refl _, rx⟩
  stop := fun i H2 k hi => ⟨xs, h H2 k, by rw [← r.length]; exact hi⟩
section
variable {kvs : List (D × D)} {a : Addr} {o : Obj} {ens : Array DictEntry} {ep : Nat}
theorem yl_keys (hm : ∀ b, M b → P b) (E : Ents U H P kvs a o ens ep) (n : ¬ M a) : Yl U P M H (Yk a o ens) (kvs.map (·.1)) where
  go := fun i H2 k hi => by
    rw [List.length_map, ← E.sz] at hi
    obtain ⟨k', d, x, y, h1, h2, _⟩ := E.en i _ (Array.getElem?_eq_getElem hi)
    exact ⟨k _ _ E.at_ n, _, x, Array.getElem?_eq_getElem hi, h2⟩
  yld := fun i H2 P2 x H3 k hi ⟨e, en, e1, rx⟩ => by
    subst e
    have E2 := E.kept hm n k
    obtain ⟨k', d, x', y, h1, h2, h3, _⟩ := E2.en i _ e1
    cases rx.inj h2
    exact ⟨k', by simp [h1], same_refl _, h3⟩
  stop := fun i H2 k hi => ⟨k _ _ E.at_ n, by rw [E.sz]; simpa using hi⟩
theorem yl_vals (hm : ∀ b, M b → P b) (E : Ents U H P kvs a o ens ep) (n : ¬ M a) : Yl U P M H (Yv a o ens) (kvs.map (·.2)) where
  go := fun i H2 k hi => by
    rw [List.length_map, ← E.sz] at hi
    obtain ⟨k', d, x, y, h1, h2, h3, h4, _⟩ := E.en i _ (Array.getElem?_eq_getElem hi)
    exact ⟨k _ _ E.at_ n, _, y, Array.getElem?_eq_getElem hi, h4⟩
  yld := fun i H2 P2 x H3 k hi ⟨e, en, e1, rx⟩ => by
    subst e
    have E2 := E.kept hm n k
    obtain ⟨k', d, x', y, h1, h2, h3, h4, h5⟩ := E2.en i _ e1
    cases rx.inj h4
    exact ⟨d, by simp [h1], same_refl _, h5⟩
  stop := fun i H2 k hi => ⟨k _ _ E.at_ n, by rw [E.sz]; simpa using hi⟩
end
/-- a new tuple stands for what it holds -/
theorem newtup_rp {p : Addr} {xs : List V} (n : H p = none) (hP : ∀ b, P b → H b ≠ none) (r : RpL U H P ds xs) : Rp U (upd H p (.tup xs)) P (.tuple ds) (.ref p) :=
  ⟨p, xs, rfl, .inl ⟨.inl upd_same, fun z => hP _ z n⟩, r.move (.frame fun b u e _ => same_upd n b u e)⟩
theorem yl_items {kvs : List (D × D)} {a : Addr} {o : Obj} {ens : Array DictEntry} {ep : Nat} (hm : ∀ b, M b → P b) (E : Ents U H P kvs a o ens ep) (n : ¬ M a) : Yl U P M H (Yi a o ens) (kvs.map fun p => .tuple [p.1, p.2]) where
  go := fun i H2 k hi => by
    rw [List.length_map, ← E.sz] at hi
    obtain ⟨k', d, x, y, h1, h2, h3, h4, _⟩ := E.en i _ (Array.getElem?_eq_getElem hi)
    exact ⟨k _ _ E.at_ n, _, x, y, Array.getElem?_eq_getElem hi, h2, h4⟩
  yld := fun i H2 P2 x H3 k hi ⟨T, en, x1, y1, e, nT, e3, e1, rx, ry⟩ => by
    subst e e3
    have E2 := E.kept hm n k
    obtain ⟨k', d, x', y, h1, h2, h3, h4, h5⟩ := E2.en i _ e1
    cases rx.inj h2
    cases ry.inj h4
    exact ⟨.tuple [k', d], by simp [h1], same_upd nT, newtup_rp nT k.pr ⟨_, _, rfl, h3, _, _, rfl, h5, rfl⟩⟩
  stop := fun i H2 k hi => ⟨k _ _ E.at_ n, by rw [E.sz]; simpa using hi⟩
theorem enumL_get : ∀ (ds : List D) (m i : Nat), (enumL m ds)[i]? = (ds[i]?).map fun d => .tuple [.int ((m + i : Nat) : Int), d]
  | [], m, i => by simp [enumL]
  | d :: r, m, 0 => by simp [enumL]
  | d :: r, m, i + 1 => by
    unfold enumL
    rw [List.getElem?_cons_succ, List.getElem?_cons_succ, enumL_get r (m + 1) i]
    have e : m + 1 + i = m + (i + 1) := by omega
    rw [e]
theorem enumL_len : ∀ (ds : List D) (m : Nat), (enumL m ds).length = ds.length
  | [], m => rfl
  | d :: r, m => by simp [enumL, enumL_len r (m + 1)]
theorem yl_enumL {a : Addr} {xs : List V} (hm : ∀ b, M b → P b) (h : ∀ H2, Kp M H H2 → SqL U.K H2 a xs) (r : RpL U H P ds xs) : Yl U P M H (Ite U.K a) (enumL 0 ds) where
  go := fun i H2 k hi => ⟨xs, xs[i]'(by rw [← r.length]; rw [enumL_len] at hi; exact hi), h H2 k, List.getElem?_eq_getElem _⟩
  yld := fun i H2 P2 x H3 k hi ⟨T, x1, e, nT, e3, y⟩ => by
    subst e e3
    rw [enumL_len] at hi
    have q := y xs (h _ k.kp)
    obtain ⟨x', ex, rx⟩ := (r.kept hm k).get (List.getElem?_eq_getElem hi)
    rw [q] at ex
    cases ex
    refine ⟨.tuple [.int (i : Nat), ds[i]], ?_, same_upd nT, newtup_rp nT k.pr ⟨_, _, rfl, rfl, _, _, rfl, rx, rfl⟩⟩
    rw [enumL_get, List.getElem?_eq_getElem hi]
    simp
  stop := fun i H2 k hi => ⟨xs, h H2 k, by rw [← r.length]; rw [enumL_len] at hi; exact hi⟩
theorem yl_enumT {a : Addr} {xs : List V} (hm : ∀ b, M b → P b) (h : ∀ H2, Kp M H H2 → SqT U.K H2 a xs) (r : RpL U H P ds xs) : Yl U P M H (YeT U.K a) (enumL 0 ds) where
  go := fun i H2 k hi => ⟨xs, xs[i]'(by rw [← r.length]; rw [enumL_len] at hi; exact hi), h H2 k, List.getElem?_eq_getElem _⟩
  yld := fun i H2 P2 x H3 k hi ⟨T, x1, e, nT, e3, y⟩ => by
    subst e e3
    rw [enumL_len] at hi
    have q := y xs (h _ k.kp)
    obtain ⟨x', ex, rx⟩ := (r.kept hm k).get (List.getElem?_eq_getElem hi)
    rw [q] at ex
    cases ex
    refine ⟨.tuple [.int (i : Nat), ds[i]], ?_, same_upd nT, newtup_rp nT k.pr ⟨_, _, rfl, rfl, _, _, rfl, rx, rfl⟩⟩
    rw [enumL_get, List.getElem?_eq_getElem hi]
    simp
  stop := fun i H2 k hi => ⟨xs, h H2 k, by rw [← r.length]; rw [enumL_len] at hi; exact hi⟩
theorem zipL_get : ∀ (ds es : List D) (i : Nat), (zipL ds es)[i]? = (match ds[i]?, es[i]? with | some d, some e => some (.tuple [d, e]) | _, _ => none)
  | [], es, i => by simp [zipL]
  | d :: r, [], i => by
    simp only [zipL, List.getElem?_nil]
    cases (d :: r)[i]? <;> rfl
  | d :: r, e :: t, 0 => by simp [zipL]
  | d :: r, e :: t, i + 1 => by
    unfold zipL
    rw [List.getElem?_cons_succ, List.getElem?_cons_succ, List.getElem?_cons_succ, zipL_get r t i]
theorem zipL_len : ∀ (ds es : List D), (zipL ds es).length = min ds.length es.length
  | [], es => by simp [zipL]
  | d :: r, [] => by simp [zipL]
  | d :: r, e :: t => by simp [zipL, zipL_len r t]
theorem yl_zipL {a b : Addr} {xs ys : List V} (hm : ∀ b, M b → P b) (h : ∀ H2, Kp M H H2 → SqL U.K H2 a xs) (g : ∀ H2, Kp M H H2 → SqL U.K H2 b ys) (r : RpL U H P ds xs) (q : RpL U H P es ys) : Yl U P M H (Itz U.K a b) (zipL ds es) where
  go := fun i H2 k hi => by
    rw [zipL_len, r.length, q.length] at hi
    exact ⟨xs, ys, xs[i]'(by omega), ys[i]'(by omega), h H2 k, g H2 k, List.getElem?_eq_getElem _, List.getElem?_eq_getElem _⟩
  yld := fun i H2 P2 x H3 k hi ⟨T, x1, y1, e, nT, e3, y, z⟩ => by
    subst e e3
    rw [zipL_len] at hi
    have hi1 : i < ds.length := by omega
    have hi2 : i < es.length := by omega
    have q1 := y xs (h _ k.kp)
    have q2 := z ys (g _ k.kp)
    obtain ⟨x', ex, rx⟩ := (r.kept hm k).get (List.getElem?_eq_getElem hi1)
    obtain ⟨y', ey, ry⟩ := (q.kept hm k).get (List.getElem?_eq_getElem hi2)
    rw [q1] at ex
    rw [q2] at ey
    cases ex
    cases ey
    refine ⟨.tuple [ds[i], es[i]], ?_, same_upd nT, newtup_rp nT k.pr ⟨_, _, rfl, rx, _, _, rfl, ry, rfl⟩⟩
    rw [zipL_get, List.getElem?_eq_getElem hi1, List.getElem?_eq_getElem hi2]
  stop := fun i H2 k hi => ⟨xs, ys, h H2 k, g H2 k, by rw [zipL_len, r.length, q.length] at hi; omega⟩
theorem yl_zipT {a b : Addr} {xs ys : List V} (hm : ∀ b, M b → P b) (h : ∀ H2, Kp M H H2 → SqT U.K H2 a xs) (g : ∀ H2, Kp M H H2 → SqT U.K H2 b ys) (r : RpL U H P ds xs) (q : RpL U H P es ys) : Yl U P M H (RZ.ItzT U.K a b) (zipL ds es) where
  go := fun i H2 k hi => by
    rw [zipL_len, r.length, q.length] at hi
    exact ⟨xs, ys, xs[i]'(by omega), ys[i]'(by omega), h H2 k, g H2 k, List.getElem?_eq_getElem _, List.getElem?_eq_getElem _⟩
  yld := fun i H2 P2 x H3 k hi ⟨T, x1, y1, e, nT, e3, y, z⟩ => by
    subst e e3
    rw [zipL_len] at hi
    have hi1 : i < ds.length := by omega
    have hi2 : i < es.length := by omega
    have q1 := y xs (h _ k.kp)
    have q2 := z ys (g _ k.kp)
    obtain ⟨x', ex, rx⟩ := (r.kept hm k).get (List.getElem?_eq_getElem hi1)
    obtain ⟨y', ey, ry⟩ := (q.kept hm k).get (List.getElem?_eq_getElem hi2)
    rw [q1] at ex
    rw [q2] at ey
    cases ex
    cases ey
    refine ⟨.tuple [ds[i], es[i]], ?_, same_upd nT, newtup_rp nT k.pr ⟨_, _, rfl, rx, _, _, rfl, ry, rfl⟩⟩
    rw [zipL_get, List.getElem?_eq_getElem hi1, List.getElem?_eq_getElem hi2]
  stop := fun i H2 k hi => ⟨xs, ys, h H2 k, g H2 k, by rw [zipL_len, r.length, q.length] at hi; omega⟩
/-- ranges -/
theorem yl_rng {lo : Int} {n : Nat} : Yl U P M H (Itr lo n) ((List.range n).map fun (i : Nat) => PyData.int (lo + (i : Int))) where
  go := fun i H2 k hi => show i < n by simpa using hi
  yld := fun i H2 P2 x H3 k hi ⟨e, y⟩ => by
    subst e y
    rw [List.length_map, List.length_range] at hi
    exact ⟨.int (lo + i), by simp [hi], same_refl _, rfl⟩
  stop := fun i H2 k hi => show n ≤ i by simpa using hi
theorem yl_rngC {lo : Int} {n : Nat} : Yl U P M H (Itc lo (-1) n) ((List.range n).map fun (i : Nat) => PyData.int (lo - (i : Int))) where
  go := fun i H2 k hi => show i < n by simpa using hi
  yld := fun i H2 P2 x H3 k hi ⟨e, y⟩ => by
    subst e y
    rw [List.length_map, List.length_range] at hi
    refine ⟨.int (lo - i), by simp [hi], same_refl _, ?_⟩
    show V.int (lo + i * -1) = V.int (lo - i)
    congr 1
    omega
  stop := fun i H2 k hi => show n ≤ i by simpa using hi
theorem yl_rngU {lo : Int} {n : Nat} : Yl U P M H (Itc lo 1 n) ((List.range n).map fun (i : Nat) => PyData.int (lo + (i : Int))) where
  go := fun i H2 k hi => show i < n by simpa using hi
  yld := fun i H2 P2 x H3 k hi ⟨e, y⟩ => by
    subst e y
    rw [List.length_map, List.length_range] at hi
    refine ⟨.int (lo + i), by simp [hi], same_refl _, ?_⟩
    show V.int (lo + i * 1) = V.int (lo + i)
    congr 1
    omega
  stop := fun i H2 k hi => show n ≤ i by simpa using hi
end
end LT
end
section
set_option linter.all false
set_option maxRecDepth 100000
namespace LT
open PySem PySem.Spec PyProof.Rows L2
section
variable {X : Cx} {Γ : Gam} {a b c tg e : Expr} {es rest elts : List Expr} {x y z : Ex} {xs : List Ex} {it : It} {p p2 pos apos cpos tpos : Pos} {kk : Nat}
theorem PI.imp {t t' : TI} (h : PI X tg e t) (k : ∀ σ H R, t' σ H R → t σ H R) : PI X tg e t' := ⟨fun pins s σ H R I q => h.run pins s σ H R I (k σ H R q)⟩
abbrev LI (X : Cx) (Γ : Gam) (tg e : Expr) (it : It) : Prop := PI X tg e (tItr (su X) Γ it)
/-- what stands ahead of a walk: the thing walked -/
theorem one_wlk {U : Su} {G : Gh} {ρ ρ1 ρ2 : Ro} {σ : L2.St} {H : Hp} {h : Hd} {d : D} {P : VK} (E : ev Γ x ρ = some (h, ρ1)) (w : wlk ρ1 h = some (d, ρ2)) (R : Rel U G ρ σ H)
    (k : ∀ v H', Fr ρ σ H H' → Sb ρ2 ρ σ → Rel U G ρ2 σ H' → Wv U G ρ2 σ H' d v → P v H') : tEv U Γ x σ H P :=
  one E R fun v H' F S r => let ⟨R2, W, S2⟩ := r.wlk w; k v H' F (S2.trans S) R2 W
/-- a list, a tuple, a dict's keys -/
def iAny (U : Su) (tl : TE) : TI := fun σ H R => tl σ H fun x H1 => (∃ a xs, x = .ref a ∧ SqL U.K H1 a xs ∧ R (Itl U.K a) H1) ∨ (∃ a xs, x = .ref a ∧ SqT U.K H1 a xs ∧ R (Itt U.K a) H1) ∨
  (∃ a o es ep, x = .ref a ∧ H1 a = some (.ext (exO a o)) ∧ o.ExactDict ∧ o.data = .dict es ep ∧ (a == sysModules) = false ∧ R (Yk a o es) H1)
theorem pi_any {tl : TE} (hl : PE X e tl) : PI X tg e (iAny (su X) tl) := by
  refine ⟨fun pins s σ H R I h => ?_⟩
  refine thn (hl.run pins s σ H _ I h) fun v s1 ⟨x, H1, I1, r1, q1⟩ => ?_
  rcases q1 with ⟨a, xs, e, hq, q⟩ | ⟨a, xs, e, hq, q⟩ | ⟨a, o, es, ep, e, at_, ex, dt, sys, q⟩
  · subst e
    cases r1
    obtain ⟨its, rv, p, hz⟩ := I1.list hq
    refine wpAny_pyIter_list p.isList ?_
    exact pi_one (tk := s1.toks) I1 _ (turn_list a _) ⟨_, Heap.get?_push_size _ rfl, rfl, rfl⟩ q
  · subst e
    cases r1
    obtain ⟨its, rv, p, hz⟩ := I1.tuple hq
    refine wpAny_pyIter_tuple (show s1.heap.IsTuple a its.toArray from p) ?_
    exact pi_one (tk := s1.toks) I1 _ (turn_tuple a _) ⟨_, Heap.get?_push_size _ rfl, rfl, rfl⟩ q
  · subst e
    cases r1
    refine wpAny_pyIter_dict_raw sys (raw_of I1 at_ ex dt) ?_
    exact pi_one (tk := s1.toks) I1 _ (turn_yk _ ex dt) ⟨_, Heap.get?_push_size _ rfl, rfl, rfl⟩ q
theorem li_seq (ha : LE X Γ e x) : LI X Γ tg e (.seq x) := by
  refine PI.imp (pi_any ha) fun σ H R ⟨G, ρ, ds, ρ', E, Rl, k⟩ => ?_
  obtain ⟨⟨h, ρ1⟩, E1, E⟩ := Option.bind_eq_some_iff.mp E
  obtain ⟨⟨d, ρ2⟩, E2, E⟩ := Option.bind_eq_some_iff.mp E
  obtain ⟨ds', E3, E⟩ := Option.bind_eq_some_iff.mp E
  obtain ⟨rfl, rfl⟩ := Prod.mk.inj (Option.some.inj E)
  refine one_wlk E1 E2 Rl fun v H' F S R2 W => ?_
  cases d with
  | tuple ds =>
    cases E3
    obtain ⟨a, xs, rfl, q, r⟩ := W.tup
    exact .inr (.inl ⟨a, xs, rfl, q H' (fun _ _ e _ => e), k _ H' F S R2 (yl_tup (fun _ => Mb.pr) q r)⟩)
  | list ds =>
    cases E3
    obtain ⟨a, xs, rfl, q, r⟩ := W.lst R2
    exact .inl ⟨a, xs, rfl, q H' (fun _ _ e _ => e), k _ H' F S R2 (yl_list (fun _ => Mb.pr) q r)⟩
  | dict kvs =>
    have E3 : (if isObj kvs then none else some (kvs.map (·.1))) = some ds' := E3
    split at E3
    · cases E3
    · rename_i no
      cases E3
      obtain ⟨a, o, es, ep, rfl, En, nm⟩ := W.dct R2 (by simpa using no)
      exact .inr (.inr ⟨a, o, es, ep, rfl, En.at_, En.ex, En.dt, En.sys, k _ H' F S R2 (yl_keys (fun _ => Mb.pr) En nm)⟩)
  | _ => cases E3
/-! ### ranges -/
theorem rngL_some {lo hi c : Int} {r : List D} (h : rngL lo hi c = some r) : lo.natAbs < 2 ^ 60 ∧ hi.natAbs < 2 ^ 60 ∧ ((c = 1 ∧ r = (List.range (hi - lo).toNat).map fun (i : Nat) => PyData.int (lo + (i : Int))) ∨ (c = -1 ∧ r = (List.range (lo - hi).toNat).map fun (i : Nat) => PyData.int (lo - (i : Int)))) := by
  unfold rngL at h
  split at h
  · rename_i q
    rw [Bool.and_eq_true, decide_eq_true_eq, decide_eq_true_eq] at q
    refine ⟨q.1, q.2, ?_⟩
    split at h
    · rename_i c1
      cases h
      exact .inl ⟨c1, rfl⟩
    · split at h
      · rename_i c1
        cases h
        exact .inr ⟨c1, rfl⟩
      · cases h
  · cases h
theorem rpL_int1 {U : Su} {H : Hp} {O : Addr → Prop} {i : Int} {vs : List V} (r : RpL U H O [.int i] vs) : vs = [.int i] := by
  obtain ⟨x, r', rfl, h1, h2⟩ := r
  have h1 : x = .int i := h1
  have h2 : r' = [] := h2
  rw [h1, h2]
theorem rpL_int2 {U : Su} {H : Hp} {O : Addr → Prop} {i j : Int} {vs : List V} (r : RpL U H O [.int i, .int j] vs) : vs = [.int i, .int j] := by
  obtain ⟨x, r', rfl, h1, h2⟩ := r
  have h1 : x = .int i := h1
  rw [h1, rpL_int1 h2]
theorem rpL_int3 {U : Su} {H : Hp} {O : Addr → Prop} {i j c : Int} {vs : List V} (r : RpL U H O [.int i, .int j, .int c] vs) : vs = [.int i, .int j, .int c] := by
  obtain ⟨x, r', rfl, h1, h2⟩ := r
  have h1 : x = .int i := h1
  rw [h1, rpL_int2 h2]
theorem evI_rng {ρ ρ' : Ro} {ds : List D} (E : evI Γ (.rng xs) ρ = some (ds, ρ')) : ∃ as, evs Γ xs ρ = some (as, ρ') ∧ rngD as = some ds := by
  obtain ⟨⟨as, ρ1⟩, E1, E⟩ := Option.bind_eq_some_iff.mp E
  obtain ⟨r, E2, E⟩ := Option.bind_eq_some_iff.mp E
  obtain ⟨rfl, rfl⟩ := Prod.mk.inj (Option.some.inj E)
  exact ⟨as, E1, E2⟩
theorem li_rng1 (hm : X.mg "range" = none) (hg : Gl X "range") (ha : LA X Γ [a] [x]) (hs : starEach [a] X.env = [(false, eval a X.env)] := by rfl) : LI X Γ tg (.Call (.Name "range" p) [a] [] pos) (.rng [x]) := by
  refine PI.imp (pi_range1 hg hm ha hs) fun σ H R ⟨G, ρ, ds, ρ', E, Rl, k⟩ => ?_
  obtain ⟨as, E1, E2⟩ := evI_rng E
  have hl := evs_len E1
  match as, hl, E2 with
  | [d], _, E2 =>
    cases d with
    | int hi =>
      have E2 : rngL 0 hi 1 = some ds := E2
      obtain ⟨_, h2, ⟨_, rfl⟩ | ⟨h, _⟩⟩ := rngL_some E2
      · refine ⟨G, ρ, [.int hi], ρ', E1, Rl, fun vs H' F S R2 r => ⟨hi, rpL_int1 r, by omega, by omega, ?_⟩⟩
        have q := k (Itr 0 hi.toNat) H' F S R2
        simp only [Int.sub_zero] at q
        exact q yl_rng
      · cases h
    | _ => cases E2
theorem li_rng2 (hm : X.mg "range" = none) (hg : Gl X "range") (ha : LA X Γ [a, b] [x, y]) (hs : starEach [a, b] X.env = [(false, eval a X.env), (false, eval b X.env)] := by rfl) (hs2 : starEach [b] X.env = [(false, eval b X.env)] := by rfl) : LI X Γ tg (.Call (.Name "range" p) [a, b] [] pos) (.rng [x, y]) := by
  refine PI.imp (pi_range2 hg hm ha hs hs2) fun σ H R ⟨G, ρ, ds, ρ', E, Rl, k⟩ => ?_
  obtain ⟨as, E1, E2⟩ := evI_rng E
  have hl := evs_len E1
  match as, hl, E2 with
  | [.int lo, .int hi], _, E2 =>
    have E2 : rngL lo hi 1 = some ds := E2
    obtain ⟨h1, h2, ⟨_, rfl⟩ | ⟨h, _⟩⟩ := rngL_some E2
    · exact ⟨G, ρ, [.int lo, .int hi], ρ', E1, Rl, fun vs H' F S R2 r => ⟨lo, hi, rpL_int2 r, ⟨by omega, by omega, by omega, by omega⟩, k _ H' F S R2 yl_rng⟩⟩
    · cases h
theorem small_up {i j : Int} (h1 : -(2 ^ 62) ≤ i) (h2 : i < 2 ^ 62) (h3 : -(2 ^ 62) ≤ j) (h4 : j < 2 ^ 62) : RgC i j 1 (j - i).toNat :=
  ⟨by decide, by decide, small_one h1 h2 h3 h4, by rw [rangeSize_one]; split <;> omega⟩
theorem li_rng3 (hm : X.mg "range" = none) (hg : Gl X "range") (ha : LA X Γ [a, b, c] [x, y, z]) (hs : starEach [a, b, c] X.env = (false, eval a X.env) :: starEach [b, c] X.env := by rfl) (hpl : (backTo pos (starEach [b, c] X.env)).any (·.1) = false := by rfl) : LI X Γ tg (.Call (.Name "range" p) [a, b, c] [] pos) (.rng [x, y, z]) := by
  refine PI.imp (pi_range3 hg hm ha hs hpl) fun σ H R ⟨G, ρ, ds, ρ', E, Rl, k⟩ => ?_
  obtain ⟨as, E1, E2⟩ := evI_rng E
  have hl := evs_len E1
  match as, hl, E2 with
  | [.int lo, .int hi, .int c], _, E2 =>
    have E2 : rngL lo hi c = some ds := E2
    obtain ⟨h1, h2, ⟨rfl, rfl⟩ | ⟨rfl, rfl⟩⟩ := rngL_some E2
    · exact ⟨G, ρ, [.int lo, .int hi, .int 1], ρ', E1, Rl, fun vs H' F S R2 r => ⟨lo, hi, 1, _, rpL_int3 r, small_up (by omega) (by omega) (by omega) (by omega), k _ H' F S R2 yl_rngU⟩⟩
    · exact ⟨G, ρ, [.int lo, .int hi, .int (-1)], ρ', E1, Rl, fun vs H' F S R2 r => ⟨lo, hi, -1, _, rpL_int3 r, .neg (by omega) (by omega) (by omega) (by omega), k _ H' F S R2 yl_rngC⟩⟩
/-! ### enumerate, zip -/
def CEn (U : Su) (R : L2.It → Hp → Prop) (x : V) (H1 : Hp) : Prop := (∃ a xs, x = .ref a ∧ SqL U.K H1 a xs ∧ R (Ite U.K a) H1) ∨ (∃ a xs, x = .ref a ∧ SqT U.K H1 a xs ∧ R (YeT U.K a) H1)
def iEnumA (U : Su) (ta : TE) : TI := fun σ H R => ta σ H (CEn U R)
theorem pi_enumA {ta : TE} (hg : Gl X "enumerate") (hm : X.mg "enumerate" = none) (ha : PE X e ta) (hs : starEach [e] X.env = (false, eval e X.env) :: starEach [] X.env) :
    PI X (.Tuple elts kk tpos) (.Call (.Name "enumerate" p) [e] [] pos) (iEnumA (su X) ta) := by
  refine ⟨fun pins s σ H R I h => ?_⟩
  refine Call_ (ld_blt I hg hm boot_enumerate (PyProof.Rows.callWith_type1 (thn ((pa_cons ha pa_nil hs).run pos pins s σ H (fun vs H1 => match vs with | [x] => CEn (su X) R x H1 | _ => False) I h) fun us s1 ⟨vs, H1, I1, r1, q1⟩ => ?_) (by rw [hs]) rfl))
  match vs, r1, q1 with
  | [x], r1, q1 =>
    obtain ⟨u, rfl, rx⟩ := vals1 r1
    rcases q1 with ⟨a, xs, rfl, hq, q⟩ | ⟨a, xs, rfl, hq, q⟩
    · cases rx
      obtain ⟨its, rv, p', hz⟩ := I1.list hq
      refine call_enumerate_list p'.isList fun h' he hit hsz hk => wpAny_pyIter_enum he ?_
      have I2 : Inv X pins σ H1 { s1 with heap := h' } := I1.kept (t' := s1.toks) hk
      refine ⟨s1.heap.objs.size + 1, [s1.heap.objs.size + 1, s1.heap.objs.size], _, _, H1, rfl, I2, turn_enum a (s1.heap.objs.size + 1) s1.heap.objs.size, ⟨⟨.none, he⟩, hit, Nat.succ_ne_self _⟩, fun b hb => ?_, q⟩
      have e' : b = s1.heap.objs.size + 1 ∨ b = s1.heap.objs.size := by simpa using hb
      have hle : s1.heap.objs.size ≤ b := by
        rcases e' with z | z
        · rw [z]; exact Nat.le_add_right _ _
        · rw [z]; exact Nat.le_refl _
      exact I1.fpOk hle (I1.hok.fresh hle)
    · cases rx
      obtain ⟨its, rv, p', hz⟩ := I1.tuple hq
      have hlt : a < s1.heap.objs.size := by obtain ⟨_, q, _⟩ := p'; exact Heap.lt_size q
      refine enum_begins1 (begins_tuple a its.toArray) (show s1.heap.IsTuple a its.toArray from p') fun h' he hit hsz hk => wpAny_pyIter_enum he ?_
      have I2 : Inv X pins σ H1 { s1 with heap := h' } := I1.kept (t' := s1.toks) hk
      refine ⟨s1.heap.objs.size + 1, [s1.heap.objs.size + 1, s1.heap.objs.size], _, _, H1, rfl, I2, turn_yeT a (s1.heap.objs.size + 1) s1.heap.objs.size (Nat.ne_of_lt hlt) (Nat.ne_of_lt (Nat.lt_succ_of_lt hlt)), ⟨⟨.none, he⟩, ⟨_, hit, rfl, rfl⟩, Nat.succ_ne_self _⟩, fun b hb => ?_, q⟩
      have e' : b = s1.heap.objs.size + 1 ∨ b = s1.heap.objs.size := by simpa using hb
      have hle : s1.heap.objs.size ≤ b := by
        rcases e' with z | z
        · rw [z]; exact Nat.le_add_right _ _
        · rw [z]; exact Nat.le_refl _
      exact I1.fpOk hle (I1.hok.fresh hle)
theorem li_enum (hm : X.mg "enumerate" = none) (hg : Gl X "enumerate") (ha : LE X Γ e x) (hs : starEach [e] X.env = (false, eval e X.env) :: starEach [] X.env := by rfl) : LI X Γ (.Tuple elts kk tpos) (.Call (.Name "enumerate" p) [e] [] pos) (.enum x) := by
  refine PI.imp (pi_enumA hg hm ha hs) fun σ H R ⟨G, ρ, ds, ρ', E, Rl, k⟩ => ?_
  obtain ⟨⟨h, ρ1⟩, E1, E⟩ := Option.bind_eq_some_iff.mp E
  obtain ⟨⟨d, ρ2⟩, E2, E⟩ := Option.bind_eq_some_iff.mp E
  obtain ⟨ds', E3, E⟩ := Option.bind_eq_some_iff.mp E
  obtain ⟨rfl, rfl⟩ := Prod.mk.inj (Option.some.inj E)
  refine one_wlk E1 E2 Rl fun v H' F S R2 W => ?_
  cases d with
  | tuple ds =>
    cases E3
    obtain ⟨a, xs, rfl, q, r⟩ := W.tup
    exact .inr ⟨a, xs, rfl, q H' (fun _ _ e _ => e), k _ H' F S R2 (yl_enumT (fun _ => Mb.pr) q r)⟩
  | list ds =>
    cases E3
    obtain ⟨a, xs, rfl, q, r⟩ := W.lst R2
    exact .inl ⟨a, xs, rfl, q H' (fun _ _ e _ => e), k _ H' F S R2 (yl_enumL (fun _ => Mb.pr) q r)⟩
  | _ => cases E3
end
end LT
end
section
set_option linter.all false
set_option maxRecDepth 100000
/-! Ghosts laid anew; statements. -/
namespace LT
open PySem PySem.Spec PyProof.Rows L2
section
variable {U : Su} {G : Gh} {ρ ρ' ρ1 ρ2 : Ro} {σ σ' : L2.St} {H H' H2 : Hp} {h : Hd} {v : V} {d : D}
theorem Rel.kp_mb (R : Rel U G ρ σ H) {b : Addr} {u : HO} (e : G.H0 b = some u) (n : ¬ G.IO b) : ¬ Mb G ρ σ b := fun z => by
  rcases z with z | ⟨i, z⟩
  · rcases (R.mu_mut z).2 with q | q
    · rw [e] at q; cases q
    · exact n q
  · exact n (G.ai i b z)
/-- the heap now as the entry -/
def Rel.baseG (R : Rel U G ρ σ H) : Gh where
  H0 := H
  O0 := G.O0
  A := G.A
  IO := Mb G ρ σ
  B := G.B
  ao := G.ao
  ai := fun i a z => .inr ⟨i, z⟩
  bi := fun a z => by
    obtain ⟨n, q⟩ := G.bi a z
    cases e : G.H0 a with
    | none => exact absurd e n
    | some u => exact ⟨by rw [R.kp a u e q]; exact fun z => (nomatch z), R.kp_mb e q⟩
theorem Rel.base (R : Rel U G ρ σ H) : Rel U R.baseG ρ σ H where
  len := R.len
  va := R.va
  ow := fun i d e => by
    obtain ⟨a, e1, c, m, n, k⟩ := R.ow i d e
    exact ⟨a, e1, c, m, n, .inr (.inl ⟨i, d, .inl e, e1⟩)⟩
  io := R.io
  bo := R.bo
  inj := R.inj
  kp := fun b u e _ => e
  o0 := R.o0
theorem Rel.old (R0 : Rel U G ρ σ H) {a : Addr} (k : R0.baseG.H0 a = none ∨ R0.baseG.IO a) : G.H0 a = none ∨ G.IO a := by
  rcases k with k | k | ⟨i, k⟩
  · cases e : G.H0 a with
    | none => exact .inl rfl
    | some u =>
      by_cases n : G.IO a
      · exact .inr n
      · have k : H a = none := k
        rw [R0.kp a u e n] at k; cases k
  · exact (R0.mu_mut k).2
  · exact .inr (G.ai i a k)
theorem Rel.unbase (R0 : Rel U G ρ σ H) (R : Rel U R0.baseG ρ' σ' H') : Rel U G ρ' σ' H' where
  len := R.len
  va := R.va
  ow := fun i d e => by
    obtain ⟨a, e1, c, m, n, k⟩ := R.ow i d e
    exact ⟨a, e1, c, m, n, R0.old k⟩
  io := R.io
  bo := R.bo
  inj := R.inj
  kp := fun b u e n => R.kp b u (R0.kp b u e n) (R0.kp_mb e n)
  o0 := R.o0
theorem Rel.unbaseV (R0 : Rel U G ρ σ H) (R : Rel U (gh R0.baseG h v) ρ' σ' H') : Rel U (gh G h v) ρ' σ' H' := by
  cases h with
  | s i => exact R0.unbase R
  | d x o =>
    cases o with
    | false => exact R0.unbase R
    | true =>
      exact {
        len := R.len
        va := R.va
        ow := fun i d e => by
          obtain ⟨a, e1, c, m, n, k⟩ := R.ow i d e
          exact ⟨a, e1, c, m, n, R0.old k⟩
        io := R.io
        bo := R.bo
        inj := R.inj
        kp := fun b u e n => R.kp b u (R0.kp b u e n) (R0.kp_mb e n)
        o0 := R.o0 }
theorem HdR.unbase (R0 : Rel U G ρ σ H) (r : HdR U R0.baseG ρ' σ' H' h v) : HdR U G ρ' σ' H' h v := by
  refine ⟨R0.unbaseV r.rel, ?_⟩
  have val := r.val
  cases h with
  | s i => exact val
  | d x o =>
    cases o with
    | false => exact val
    | true =>
      obtain ⟨a, e, c, m, n, k⟩ := val
      exact ⟨a, e, c, m, n, R0.old k⟩
/-- an owned result of what ran since is none of what was met before -/
theorem HdR.apart (R0 : Rel U G ρ σ H) {own : Bool} {x : D} (r : HdR U R0.baseG ρ' σ H' (.d x own) v) (F : Fr ρ σ H H') (S : Sb ρ' ρ σ) : Mv H (Pr G ρ σ) H' (Pr (gh G (.d x own) v) ρ' σ) := by
  cases own with
  | false => exact mv_later F S fun _ o => o
  | true =>
    obtain ⟨a, e, c, m, n, k⟩ := r.val
    intro b u eb nb
    refine ⟨F b u eb fun z => nb (.inr z), fun z => ?_⟩
    rcases z with (z | z) | z
    · exact nb (.inl z)
    · rw [e] at z
      cases z
      rcases k with k | k
      · have k : H a = none := k
        rw [k] at eb; cases eb
      · exact nb (Mb.pr k)
    · exact nb (.inr (S b z))
/-! ### statements -/
def Post (U : Su) (G : Gh) (D : Ends) : Oc → Prop
  | .nx ρ' => ∀ σ' H', Rel U G ρ' σ' H' → D.nx σ' H'
  | .bk ρ' => ∀ σ' H', Rel U G ρ' σ' H' → D.bk σ' H'
  | .ct ρ' => ∀ σ' H', Rel U G ρ' σ' H' → D.ct σ' H'
  | .rt d own ρ' => ∀ v σ' H', HdR U G ρ' σ' H' (.d d own) v → D.rt v H'
def tSt (U : Su) (Γ : Gam) (s : St) : TS := fun D σ H => ∃ G ρ o, sx Γ s ρ = some o ∧ Rel U G ρ σ H ∧ Post U G D o
def tSts (U : Su) (Γ : Gam) (ss : List St) : TS := fun D σ H => ∃ G ρ o, sxs Γ ss ρ = some o ∧ Rel U G ρ σ H ∧ Post U G D o
end
section
variable {X : Cx} {Γ : Gam} {a b c e : Expr} {st : Stmt} {sts sts2 : List Stmt} {x y z : Ex} {s : St} {ss ss2 : List St} {it : It} {p p2 pos pos' : Pos}
theorem PS.imp {t t' : TS} (h : PS X st t) (k : ∀ D σ H, t' D σ H → t D σ H) : PS X st t' := ⟨fun pins s σ H D I q => h.run pins s σ H D I (k D σ H q)⟩
theorem PSs.imp {t t' : TS} (h : PSs X sts t) (k : ∀ D σ H, t' D σ H → t D σ H) : PSs X sts t' := ⟨fun pins s σ H D I q => h.run pins s σ H D I (k D σ H q)⟩
abbrev LS (X : Cx) (Γ : Gam) (st : Stmt) (s : St) : Prop := PS X st (tSt (su X) Γ s)
abbrev LSs (X : Cx) (Γ : Gam) (sts : List Stmt) (ss : List St) : Prop := PSs X sts (tSts (su X) Γ ss)
theorem lss_nil : LSs X Γ [] [] := PSs.imp pss_nil fun D σ H ⟨G, ρ, o, E, R, k⟩ => by
  cases E
  exact k σ H R
theorem lss_cons (h : LS X Γ st s) (hr : LSs X Γ sts ss) : LSs X Γ (st :: sts) (s :: ss) := by
  refine PSs.imp (pss_cons h hr) fun D σ H ⟨G, ρ, o, E, R, k⟩ => ?_
  have E : (match sx Γ s ρ with | some (.nx ρ1) => sxs Γ ss ρ1 | r => r) = some o := E
  cases q : sx Γ s ρ with
  | none => rw [q] at E; cases E
  | some o1 =>
    rw [q] at E
    refine ⟨G, ρ, o1, q, R, ?_⟩
    cases o1 with
    | nx ρ1 => exact fun σ' H' R' => ⟨G, ρ1, o, E, R', k⟩
    | rt d own ρ1 => cases E; exact k
    | bk ρ1 => cases E; exact k
    | ct ρ1 => cases E; exact k
theorem ls_pass : LS X Γ (.Pass pos) .pas := PS.imp ps_pass fun D σ H ⟨G, ρ, o, E, R, k⟩ => by cases E; exact k σ H R
theorem ls_brk : LS X Γ (.Break pos) .brk := PS.imp ps_break fun D σ H ⟨G, ρ, o, E, R, k⟩ => by cases E; exact k σ H R
theorem ls_cnt : LS X Γ (.Continue pos) .cnt := PS.imp ps_continue fun D σ H ⟨G, ρ, o, E, R, k⟩ => by cases E; exact k σ H R
theorem ls_rai : LS X Γ st .rai := PS.imp ps_never fun D σ H ⟨G, ρ, o, E, R, k⟩ => by cases E
theorem ls_ret0 : LS X Γ (.Return none pos) .ret0 := PS.imp ps_retN fun D σ H ⟨G, ρ, o, E, R, k⟩ => by cases E; exact k .non σ H ⟨R, rfl⟩
theorem ls_ex (ha : LE X Γ a x) (hs : swapsWith a none pos.line X.env = pure false := by rfl) : LS X Γ (.Expr a pos) (.ex x) := PS.imp (ps_expr ha hs) fun D σ H ⟨G, ρ, o, E, R, k⟩ => by
  obtain ⟨⟨h, ρ1⟩, E1, E⟩ := Option.bind_eq_some_iff.mp E
  cases E
  exact one E1 R fun v H' F S r => k σ H' r.relG
theorem ls_if (hc : LT_ X Γ c z) (ha : LSs X Γ sts ss) (hb : LSs X Γ sts2 ss2) : LS X Γ (.If c sts sts2 pos) (.ifs z ss ss2) := PS.imp (ps_if hc ha hb) fun D σ H ⟨G, ρ, o, E, R, k⟩ => by
  obtain ⟨⟨t, ρ1⟩, E1, E⟩ := Option.bind_eq_some_iff.mp E
  refine ⟨G, ρ, t, ρ1, E1, R, fun H' F S R' => ?_⟩
  cases t with
  | true => rw [if_pos rfl]; exact ⟨G, ρ1, o, E, R', k⟩
  | false => rw [if_neg Bool.false_ne_true]; exact ⟨G, ρ1, o, E, R', k⟩
/-- a slot is given out -/
theorem Rel.unslot {U : Su} {G : Gh} {ρ : Ro} {σ : L2.St} {H : Hp} {d : D} {v : V} (R : Rel U G ρ σ H) {i : Nat} (e : ρ.at i = .ow d) (hv : σ[i]? = some (some v)) : HdR U G (ρ.set i .un) σ H (.d d true) v := by
  obtain ⟨a, e1, c, m, n, k⟩ := R.ow i d e
  rw [hv] at e1
  cases e1
  have hi : i < ρ.length := R.lt hv
  have hss : σ.set i (some (.ref a)) = σ := set_self_eq σ i _ hv
  have sb : ∀ b, Mu (ρ.set i .un) σ b → Mu ρ σ b := fun b z => by
    rw [← hss] at z
    exact mu_set_un z
  have na : ¬ Pr G (ρ.set i .un) σ a := fun z => by
    rcases z with z | ⟨j, f, z, q⟩
    · exact n z
    · rw [Ro.at_set] at z
      by_cases hij : i = j
      · rw [if_pos ⟨hij, hi⟩] at z
        rcases z with z | z <;> cases z
      · rw [if_neg (fun y => hij y.1)] at z
        exact hij (R.inj i j d f a (.inl e) z hv q)
  have mv : Mv H (Pr G ρ σ) H (Pr (G.addV (.ref a)) (ρ.set i .un) σ) := .mono fun b z => by
    rcases z with (z | z) | z
    · exact .inl z
    · cases z; exact .inr ⟨i, d, .inl e, hv⟩
    · exact .inr (sb b z)
  have out : ∀ {j s}, Ro.at (ρ.set i .un) j = s → s ≠ .un → (i ≠ j ∧ ρ.at j = s) := fun {j s} e n => by
    rw [Ro.at_set] at e
    by_cases hij : i = j
    · rw [if_pos ⟨hij, hi⟩] at e; exact absurd e.symm n
    · rw [if_neg (fun z => hij z.1)] at e; exact ⟨hij, e⟩
  refine ⟨⟨by simp [R.len], fun j e q => ?_, fun j e' q => ?_, fun j e q => ?_, fun j e q => ?_, fun j k e f a q1 q2 q3 q4 => ?_, R.kp, fun b z => ?_⟩, a, rfl, c.move mv fun _ z => z, m, na, k⟩
  · obtain ⟨ne, q⟩ := out q (fun z => nomatch z)
    obtain ⟨w, e1, r1⟩ := R.va j e q
    exact ⟨w, e1, r1.move mv⟩
  · obtain ⟨ne, q⟩ := out q (fun z => nomatch z)
    obtain ⟨w, e1, r1, m1, n1, k1⟩ := R.ow j e' q
    refine ⟨w, e1, r1.move mv fun _ z => z, m1, fun z => ?_, k1⟩
    rcases z with z | z
    · exact n1 z
    · cases z
      exact ne (R.inj i j d e' _ (.inl e) (.inl q) hv e1)
  · obtain ⟨ne, q⟩ := out q (fun z => nomatch z)
    obtain ⟨w, e1, r1, m⟩ := R.io j e q
    exact ⟨w, e1, r1.move mv fun _ z => z, m⟩
  · obtain ⟨ne, q⟩ := out q (fun z => nomatch z)
    obtain ⟨w, e1, r1⟩ := R.bo j e q
    refine ⟨w, e1, ?_⟩
    rcases r1 with r1 | ⟨b, ea, r1, n⟩
    · exact .inl (r1.move mv)
    · exact .inr ⟨b, ea, r1.move mv fun _ z => z, n⟩
  · have lift : ∀ {j e}, (Ro.at (ρ.set i .un) j = .ow e ∨ Ro.at (ρ.set i .un) j = .io e) → (ρ.at j = .ow e ∨ ρ.at j = .io e) := fun {j e} z => by
      rcases z with z | z
      · exact .inl (out z (fun z => nomatch z)).2
      · exact .inr (out z (fun z => nomatch z)).2
    exact R.inj j k e f a (lift q1) (lift q2) q3 q4
  · rcases z with z | z
    · exact R.o0 b z
    · cases z
      obtain ⟨u, e⟩ := mut_some m
      rw [e]; exact fun z => nomatch z
theorem ls_ret (ha : LE X Γ a x) : LS X Γ (.Return (some a) pos) (.ret x) := PS.imp (ps_ret ha) fun D σ H ⟨G, ρ, o, E, R, k⟩ => by
  obtain ⟨⟨h, ρ1⟩, E1, E⟩ := Option.bind_eq_some_iff.mp E
  refine one E1 R fun v H' F S r => ?_
  cases h with
  | d y o => cases E; exact k v σ H' r
  | s i =>
    obtain ⟨R', ev, hne⟩ := r
    dsimp only at E
    split at E
    · rename_i d q
      cases E
      exact k v σ H' (Rel.unslot R' q ev)
    · rename_i d q
      cases E
      obtain ⟨w, e1, r⟩ := R'.va i d q
      rw [ev] at e1; cases e1
      exact k v σ H' ⟨R', r⟩
    · rename_i d q
      split at E
      · rename_i f
        cases E
        obtain ⟨w, e1, r⟩ := R'.bo i d q
        rw [ev] at e1; cases e1
        rcases r with r | ⟨a, _, c, _⟩
        · exact k v σ H' ⟨R', r⟩
        · exact (ct_flat f c).elim
      · cases E
    · cases E
/-- name = value -/
theorem sx_asg {i : Nat} {ρ : Ro} {o : Oc} (E : sx Γ (.asg i x) ρ = some o) : ∃ h ρ1 d own ρ2, ev Γ x ρ = some (h, ρ1) ∧ LT.esc ρ1 h = some (d, own, ρ2) ∧ o = .nx (ρ2.set i (ownS d own)) := by
  obtain ⟨⟨h, ρ1⟩, E1, E⟩ := Option.bind_eq_some_iff.mp E
  obtain ⟨⟨d, own, ρ2⟩, E2, E⟩ := Option.bind_eq_some_iff.mp E
  cases E
  exact ⟨h, ρ1, d, own, ρ2, E1, E2, rfl⟩
theorem tasg_of {i : Nat} {n : Str} {D : Ends} {σ : L2.St} {H : Hp} (hN : X.N[i]? = some n) (hlen : σ.length = X.N.length) (t : tSt (su X) Γ (.asg i x) D σ H) : tEv (su X) Γ x σ H fun v H' => D.nx (σ.set i (some v)) H' := by
  obtain ⟨G, ρ, o, E, R, k⟩ := t
  obtain ⟨h, ρ1, d, own, ρ2, E1, E2, rfl⟩ := sx_asg E
  refine one E1 R fun v H' F S r => ?_
  obtain ⟨r2, _⟩ := r.esc E2
  have hi : i < ρ2.length := by
    rw [r2.rel.len, hlen]
    exact (List.getElem?_eq_some_iff.mp hN).1
  exact k _ H' (r2.put hi)
/-- what holds of the frame's length -/
theorem PS.impL {t t' : TS} (h : PS X st t) (k : ∀ D σ H, σ.length = X.N.length → t' D σ H → t D σ H) : PS X st t' := ⟨fun pins s σ H D I q => h.run pins s σ H D I (k D σ H I.len q)⟩
theorem ls_asg {i : Nat} {n : Str} (hN : X.N.Nodup) (hi : X.N[i]? = some n) (hx : Loc X.env.scope n) (ha : LE X Γ a x) (hs : swapsWith a (some (.Name n pos')) pos.line X.env = pure false := by rfl) (hf : X.fn n = true ∨ X.env.scope.names.lookup n = some .local := by first | exact .inl rfl | exact .inr rfl | assumption) :
    LS X Γ (.Assign [.Name n pos'] a pos) (.asg i x) := PS.impL (ps_set hN hi hx ha hs hf) fun D σ H hl t => tasg_of hi hl t
end
end LT
end
section
set_option linter.all false
set_option maxRecDepth 100000
/-! What is owned is written. -/
namespace LT
open PySem PySem.Spec PyProof.Rows L2
section
variable {U : Su} {G : Gh} {ρ ρ' ρ1 ρ2 : Ro} {σ σ' : L2.St} {H H' H2 : Hp} {h : Hd} {v : V} {c c' d : D} {i : Nat} {a : Addr} {P : Addr → Prop} {put : D → Ro}
/-- an owned slot -/
inductive Ow (ρ : Ro) (i : Nat) (c : D) (put : D → Ro) : Prop
  | ow : ρ.at i = .ow c → (∀ x, put x = ρ.set i (.ow x)) → Ow ρ i c put
  | io : ρ.at i = .io c → (∀ x, put x = ρ.set i (.io x)) → Ow ρ i c put
theorem own_some (e : ρ.own i = some (c, put)) : Ow ρ i c put := by
  unfold Ro.own at e
  split at e
  · rename_i d q
    cases e
    exact .ow q fun _ => rfl
  · rename_i d q
    cases e
    exact .io q fun _ => rfl
  · cases e
/-- .. where it stands -/
theorem Rel.owAt (R : Rel U G ρ σ H) (o : Ow ρ i c put) : ∃ a, σ[i]? = some (some (.ref a)) ∧ Ct U H (Pr G ρ σ) a c ∧ Mut (H a) ∧ Pr G ρ σ a := by
  cases o with
  | ow e _ =>
    obtain ⟨a, e1, ct, m, _⟩ := R.ow i c e
    exact ⟨a, e1, ct, m, .inr ⟨i, c, .inl e, e1⟩⟩
  | io e _ =>
    obtain ⟨a, e1, ct, m, _⟩ := R.io i c e
    exact ⟨a, e1, ct, m, .inr ⟨i, c, .inr e, e1⟩⟩
theorem mv_upd {o : HO} (pa : P a) : Mv H P (upd H a o) P := fun b u e n => ⟨by rw [upd_ne (fun z => n (by rw [z]; exact pa))]; exact e, n⟩
theorem at_put_ow (e : ρ.at i = .ow c) (j : Nat) : Ro.at (ρ.set i (.ow c')) j = if i = j then .ow c' else ρ.at j := by
  have hi : i < ρ.length := Ro.at_lt (by rw [e]; exact fun z => nomatch z)
  rw [Ro.at_set]
  by_cases h : i = j
  · rw [if_pos ⟨h, hi⟩, if_pos h]
  · rw [if_neg (fun z => h z.1), if_neg h]
theorem at_put_io (e : ρ.at i = .io c) (j : Nat) : Ro.at (ρ.set i (.io c')) j = if i = j then .io c' else ρ.at j := by
  have hi : i < ρ.length := Ro.at_lt (by rw [e]; exact fun z => nomatch z)
  rw [Ro.at_set]
  by_cases h : i = j
  · rw [if_pos ⟨h, hi⟩, if_pos h]
  · rw [if_neg (fun z => h z.1), if_neg h]
/-- owned or lent, at j -/
def Isow (ρ : Ro) (j : Nat) : Prop := ∃ d, ρ.at j = .ow d ∨ ρ.at j = .io d
theorem Ow.is (o : Ow ρ i c put) : Isow ρ i := by
  cases o with
  | ow e _ => exact ⟨c, .inl e⟩
  | io e _ => exact ⟨c, .inr e⟩
theorem Ow.isow (o : Ow ρ i c put) (x : D) (j : Nat) : Isow (put x) j ↔ Isow ρ j := by
  cases o with
  | ow e p =>
    rw [p]
    unfold Isow
    simp only [at_put_ow e]
    by_cases h : i = j
    · subst h
      simp only [if_true, e]
      constructor <;> (rintro ⟨_, _⟩; exact ⟨_, .inl rfl⟩)
    · simp only [h, if_false]
  | io e p =>
    rw [p]
    unfold Isow
    simp only [at_put_io e]
    by_cases h : i = j
    · subst h
      simp only [if_true, e]
      constructor <;> (rintro ⟨_, _⟩; exact ⟨_, .inr rfl⟩)
    · simp only [h, if_false]
theorem Ow.mu (o : Ow ρ i c put) (x : D) (b : Addr) : Mu (put x) σ b ↔ Mu ρ σ b := by
  constructor
  · rintro ⟨j, d, e, q⟩
    obtain ⟨d', e'⟩ := (o.isow x j).mp ⟨d, e⟩
    exact ⟨j, d', e', q⟩
  · rintro ⟨j, d, e, q⟩
    obtain ⟨d', e'⟩ := (o.isow x j).mpr ⟨d, e⟩
    exact ⟨j, d', e', q⟩
theorem Ow.pr (o : Ow ρ i c put) (x : D) : Pr G (put x) σ = Pr G ρ σ := by
  funext b
  unfold Pr
  exact propext ⟨fun z => z.imp id (o.mu x b).mp, fun z => z.imp id (o.mu x b).mpr⟩
/-- the slot's object is another now -/
theorem Rel.write (R : Rel U G ρ σ H) (o : Ow ρ i c put) (hv : σ[i]? = some (some (.ref a))) {u : HO} (mu : Mut (some u)) (ct : Ct U (upd H a u) (Pr G ρ σ) a c') : Rel U G (put c') σ (upd H a u) := by
  obtain ⟨a', e0, _, _, pa⟩ := R.owAt o
  rw [hv] at e0
  cases e0
  have mv : Mv H (Pr G ρ σ) (upd H a u) (Pr G ρ σ) := mv_upd pa
  have pre : Pr G (put c') σ = Pr G ρ σ := o.pr c'
  have hi : i < ρ.length := R.lt hv
  have hlen : (put c').length = ρ.length := by
    cases o with
    | ow e p => rw [p]; simp
    | io e p => rw [p]; simp
  have oth : ∀ {j s}, Ro.at (put c') j = s → i ≠ j → ρ.at j = s := fun {j s} e n => by
    cases o with
    | ow e' p => rw [p, at_put_ow e', if_neg n] at e; exact e
    | io e' p => rw [p, at_put_io e', if_neg n] at e; exact e
  have ne_of : ∀ {j b}, i ≠ j → Isow ρ j → σ[j]? = some (some (.ref b)) → b ≠ a := fun {j b} n w e z => by
    subst z
    obtain ⟨d1, w1⟩ := o.is
    obtain ⟨d2, w2⟩ := w
    exact n (R.inj i j d1 d2 b w1 w2 hv e)
  have there : ∀ {b w}, H b = some w → ∃ w', upd H a u b = some w' := fun {b w} e => by
    by_cases z : b = a
    · rw [z, upd_same]; exact ⟨_, rfl⟩
    · rw [upd_ne z]; exact ⟨_, e⟩
  refine ⟨by rw [hlen]; exact R.len, fun j d q => ?_, fun j d q => ?_, fun j d q => ?_, fun j d q => ?_, fun j k d e b q1 q2 q3 q4 => ?_, fun b w e n => ?_, fun b z => ?_⟩
  · rw [pre]
    have n : i ≠ j := fun z => by
      subst z
      cases o with
      | ow e p => rw [p, at_put_ow e, if_pos rfl] at q; cases q
      | io e p => rw [p, at_put_io e, if_pos rfl] at q; cases q
    obtain ⟨w, e, r⟩ := R.va j d (oth q n)
    exact ⟨w, e, r.move mv⟩
  · rw [pre]
    by_cases n : i = j
    · subst n
      cases o with
      | ow e p =>
        rw [p, at_put_ow e, if_pos rfl] at q
        cases q
        obtain ⟨b, e1, _, _, k1, k2⟩ := R.ow i c e
        rw [hv] at e1; cases e1
        exact ⟨a, hv, ct, by rw [upd_same]; exact mu, k1, k2⟩
      | io e p => rw [p, at_put_io e, if_pos rfl] at q; cases q
    · obtain ⟨b, e, r, m, k⟩ := R.ow j d (oth q n)
      have nb := ne_of n ⟨d, .inl (oth q n)⟩ e
      exact ⟨b, e, r.move mv fun w z => by rw [upd_ne nb]; exact z, by rw [upd_ne nb]; exact m, k⟩
  · rw [pre]
    by_cases n : i = j
    · subst n
      cases o with
      | ow e p => rw [p, at_put_ow e, if_pos rfl] at q; cases q
      | io e p =>
        rw [p, at_put_io e, if_pos rfl] at q
        cases q
        obtain ⟨b, e1, _, _, k1⟩ := R.io i c e
        rw [hv] at e1; cases e1
        exact ⟨a, hv, ct, by rw [upd_same]; exact mu, k1⟩
    · obtain ⟨b, e, r, m, k⟩ := R.io j d (oth q n)
      have nb := ne_of n ⟨d, .inr (oth q n)⟩ e
      exact ⟨b, e, r.move mv fun w z => by rw [upd_ne nb]; exact z, by rw [upd_ne nb]; exact m, k⟩
  · rw [pre]
    have n : i ≠ j := fun z => by
      subst z
      cases o with
      | ow e p => rw [p, at_put_ow e, if_pos rfl] at q; cases q
      | io e p => rw [p, at_put_io e, if_pos rfl] at q; cases q
    obtain ⟨w, e, r⟩ := R.bo j d (oth q n)
    refine ⟨w, e, ?_⟩
    rcases r with r | ⟨b, ea, r, k⟩
    · exact .inl (r.move mv)
    · refine .inr ⟨b, ea, r.move mv fun w z => ?_, k⟩
      rw [upd_ne (fun z' => ?_)]
      · exact z
      · subst z'
        obtain ⟨d1, w1⟩ := o.is
        exact R.bo_mu k ⟨i, d1, w1, hv⟩
  · obtain ⟨d', w1⟩ := (o.isow c' j).mp ⟨d, q1⟩
    obtain ⟨e', w2⟩ := (o.isow c' k).mp ⟨e, q2⟩
    exact R.inj j k d' e' b w1 w2 q3 q4
  · have nb : b ≠ a := fun z => by
      subst z
      obtain ⟨d1, w1⟩ := o.is
      rcases (R.mu_mut ⟨i, d1, w1, hv⟩).2 with k | k
      · rw [e] at k; cases k
      · exact n k
    rw [upd_ne nb]
    exact R.kp b w e n
  · cases e : H b with
    | none => exact fun _ => R.o0 b z e
    | some w => obtain ⟨w', e'⟩ := there e; rw [e']; exact fun z => nomatch z
theorem ct_lst {ds : List D} (c : Ct U H P a (.list ds)) (m : Mut (H a)) : ∃ xs, H a = some (.lst xs) ∧ RpL U H P ds xs := by
  obtain ⟨xs, q, r⟩ := c
  rcases q with q | ⟨o, q⟩
  · exact ⟨xs, q, r⟩
  · rw [q] at m; exact m.elim
/-! ### o[i] = v -/
theorem RpT.puts {k : D} {nk : NestedKey} {b : Addr} {x : V} {u : Value} (hk : toNK k = some nk) (hd : nk.depth ≤ 8) (rb : Rp U H P k (.ref b)) (ru : RelV x u) (rx : Rp U H P d x) :
    ∀ {kvs : List (D × D)} {xs : List (NestedKey × Addr × Value)}, RpT U H P kvs xs → RpT U H P (kvs.map fun p => if PyData.eqv p.1 k then (p.1, d) else p) (xs.map (putAt nk u)) ∧ (kvs.any (fun p => PyData.eqv p.1 k) = (atKey xs nk).isSome) ∧ RpT U H P (kvs ++ [(k, d)]) (xs ++ [(nk, b, u)])
  | [], _, h => by
    cases h
    exact ⟨rfl, rfl, ⟨nk, b, u, x, [], rfl, hk, hd, rb, ru, rx, rfl⟩⟩
  | (k', d') :: r, _, h => by
    obtain ⟨n', b', u', v', xr, rfl, h1, h2, h3, h4, h5, h6⟩ := h
    obtain ⟨i1, i2, i3⟩ := RpT.puts hk hd rb ru rx h6
    have e := eqv_key h1 hk
    refine ⟨?_, ?_, ⟨n', b', u', v', _, rfl, h1, h2, h3, h4, h5, i3⟩⟩
    · rw [List.map_cons, List.map_cons]
      unfold putAt
      by_cases c : n' = nk
      · simp only [e, decide_eq_true c, if_true, if_pos c]
        exact ⟨n', b', u, x, _, rfl, h1, h2, h3, ru, rx, i1⟩
      · simp only [e, decide_eq_false c, if_neg c, Bool.false_eq_true, if_false]
        exact ⟨n', b', u', v', _, rfl, h1, h2, h3, h4, h5, i1⟩
    · unfold atKey at *
      rw [List.any_cons, List.find?_cons]
      simp only [e]
      by_cases c : n' = nk
      · simp only [decide_eq_true c]; rfl
      · simp only [decide_eq_false c, Bool.false_or]
        exact i2
theorem RpT.store {xs : List (NestedKey × Addr × Value)} {kvs : List (D × D)} {k : D} {nk : NestedKey} {b : Addr} {x : V} {u : Value} (r : RpT U H P kvs xs) (hk : toNK k = some nk) (hd : nk.depth ≤ 8) (rb : Rp U H P k (.ref b)) (ru : RelV x u) (rx : Rp U H P d x) :
    RpT U H P (dPut kvs k d) (storedH xs nk b u) := by
  obtain ⟨i1, i2, i3⟩ := RpT.puts (d := d) (x := x) hk hd rb ru rx r
  unfold dPut storedH
  rw [i2]
  split
  · exact i1
  · exact i3
theorem RpM.puts {k : D} {ky : Key} {x : V} {u : Value} (hk : toKey k = some ky) (ru : RelV x u) (rx : Rp U H P d x) :
    ∀ {kvs : List (D × D)} {ys : List (Key × Value)}, RpM U H P kvs ys → RpM U H P (kvs.map fun p => if PyData.eqv p.1 k then (p.1, d) else p) (ys.map fun kv => if kv.1 = ky then (kv.1, u) else kv) ∧ (kvs.any (fun p => PyData.eqv p.1 k) = ys.any fun kv => decide (kv.1 = ky)) ∧ RpM U H P (kvs ++ [(k, d)]) (ys ++ [(ky, u)])
  | [], _, h => by
    cases h
    exact ⟨rfl, rfl, ⟨ky, u, x, [], rfl, hk, ru, rx, rfl⟩⟩
  | (k', d') :: r, _, h => by
    obtain ⟨n', u', v', yr, rfl, h1, h4, h5, h6⟩ := h
    obtain ⟨i1, i2, i3⟩ := RpM.puts hk ru rx h6
    have e := RpM.toKey_eqv h1 hk
    refine ⟨?_, ?_, ⟨n', u', v', _, rfl, h1, h4, h5, i3⟩⟩
    · rw [List.map_cons, List.map_cons]
      by_cases c : n' = ky
      · simp only [e, decide_eq_true c, if_true, if_pos c]
        exact ⟨n', u, x, _, rfl, h1, ru, rx, i1⟩
      · simp only [e, decide_eq_false c, if_neg c, Bool.false_eq_true, if_false]
        exact ⟨n', u', v', _, rfl, h1, h4, h5, i1⟩
    · rw [List.any_cons, List.any_cons, e, i2]
theorem RpM.store {ys : List (Key × Value)} {kvs : List (D × D)} {k : D} {ky : Key} {x : V} {u : Value} (r : RpM U H P kvs ys) (hk : toKey k = some ky) (ru : RelV x u) (rx : Rp U H P d x) :
    RpM U H P (dPut kvs k d) (stored ys ky u) := by
  obtain ⟨i1, i2, i3⟩ := RpM.puts (d := d) (x := x) hk ru rx r
  unfold dPut stored
  rw [i2]
  split
  · exact i1
  · exact i3
theorem RpT.objTag {kvs : List (D × D)} {xs : List (NestedKey × Addr × Value)} (r : RpT U H P kvs xs) : objTag kvs = none := by
  cases kvs with
  | nil => rfl
  | cons p t =>
    obtain ⟨k, d⟩ := p
    obtain ⟨n', b', u', v', xr, rfl, h1, h2, h3, _⟩ := r
    obtain ⟨ds, rfl⟩ := toNK_tup h1 h3
    rfl
theorem RpM.objTag {kvs : List (D × D)} {ys : List (Key × Value)} (r : RpM U H P kvs ys) : objTag kvs = none := by
  cases kvs with
  | nil => rfl
  | cons p t =>
    obtain ⟨k, d⟩ := p
    obtain ⟨n', u', v', xr, rfl, h1, _⟩ := r
    cases k with
    | int i => rfl
    | str i => rfl
    | _ => cases h1
theorem RpT.lenT {kvs : List (D × D)} {xs : List (NestedKey × Addr × Value)} (r : RpT U H P kvs xs) : kvs.length = xs.length := (rpT_ents r).1
theorem RpM.lenM : ∀ {kvs : List (D × D)} {ys : List (Key × Value)}, RpM U H P kvs ys → kvs.length = ys.length
  | [], _, h => by cases h; rfl
  | (k', d') :: r, _, h => by
    obtain ⟨n', u', v', yr, rfl, h1, h4, h5, h6⟩ := h
    simp [RpM.lenM h6]
theorem dPut_len (kvs : List (D × D)) (k v : D) : (dPut kvs k v).length ≤ kvs.length + 1 := by
  unfold dPut
  split <;> simp
end
section
variable {X : Cx}
/-- the tracked dict at a, its object another -/
theorem inv_dct {pins : List (Addr × Obj)} {σ : L2.St} {H : Hp} {s : Shared} {a : Addr} {h' : Heap} {o' : Obj} {tk : Nat} (I : Inv X pins σ H s) (m : Mut (H a)) (sb : Heap.SameBut a s.heap h') (e : h'.get? a = some o') : Inv X pins σ (upd H a (.ext (exO a o'))) { s with heap := h', toks := tk } :=
  I.write (x := a) (e := a) m (.inl rfl) (fun b u hb hu => (sb.2 b hb).trans hu) ⟨_, e⟩ ⟨e, ⟨_, e⟩, fun h1 h2 p k => k _ p⟩
def rPut (U : Su) : TSet := fun o i v H Q => ∃ (P : Addr → Prop) (a : Addr) (c k d c' : D), o = .ref a ∧ P a ∧ Ct U H P a c ∧ Mut (H a) ∧ Rp U H P k i ∧ Rp U H P d v ∧ putD c k d = some c' ∧ ∀ u, Mut (some u) → Ct U (upd H a u) P a c' → Q (upd H a u)
theorem set_data (hu : X.A.units + 200 < cLine) : PSet X (rPut (su X)) := by
  intro pins s σ H o i v ov iv u Q I ro ri rv h
  obtain ⟨P, a, c, k, d, c', rfl, pa, ct, m, rk, rd, e, q⟩ := h
  unfold putD at e
  split at e
  · rename_i ds j
    obtain ⟨n, e1, e2⟩ := Option.map_eq_some_iff.mp e
    subst e2
    obtain ⟨xs, hx, rl⟩ := ct_lst ct m
    cases (show i = .int j from rk)
    refine set_list pins s σ H _ _ v ov iv u Q I ro ri rv ⟨a, xs, j, n, rfl, rfl, hx, by rw [← ixI_eq, ← rl.length]; exact e1, ?_⟩
    refine q _ trivial ⟨_, .inl upd_same, ?_⟩
    exact (rl.move (mv_upd pa)).set n (Rp.move (mv_upd pa) _ _ rd)
  · rename_i kvs
    split at e
    · rename_i g
      cases e
      rw [Bool.and_eq_true, Bool.and_eq_true, Bool.not_eq_true', decide_eq_true_eq] at g
      obtain ⟨⟨no, g⟩, hz⟩ := g
      cases ro
      have ct : CtD (su X) H P kvs a := ct
      have zl : line = sizeLine := line_eq
      have fin : ∀ (h' : Heap) (o' : Obj) (tk : Nat), Heap.SameBut a s.heap h' → h'.get? a = some o' → CtD (su X) (upd H a (.ext (exO a o'))) P (dPut kvs k d) a → ∃ H', Inv X pins σ H' { s with heap := h', toks := tk } ∧ Q H' := fun h' o' tk sb e1 c1 =>
        ⟨_, inv_dct I m sb e1, q (.ext (exO a o')) trivial c1⟩
      cases ct.says I no g with
      | t xs nk h1 h2 h3 h4 h5 h6 h7 =>
        obtain ⟨b, rfl, hb⟩ := nestedIs_of I h3 h4 h7 (.inl rk) ri
        have rk' : Rp (su X) H P k (.ref b) := by
          cases i with
          | ref b' => cases (show Value.ref b = Value.ref b' from ri); exact rk
          | int z => obtain ⟨t, z⟩ := ri; cases z
          | str z => obtain ⟨t, z⟩ := ri; cases z
          | byt z => obtain ⟨t, z⟩ := ri; cases z
          | flt z => obtain ⟨t, z⟩ := ri; cases z
          | non => cases ri
          | bl z => cases ri
          | ty z => cases ri
        refine wpAny_setItem_heap (room_nested (X := X) (k := 0) (by omega)) hb h6 (fun h' hm sb => ?_) h1
        obtain ⟨o', es, ep, g1, g2, g3, g4, g5, g6⟩ := hm
        refine fin h' o' _ sb g1 (.inl ?_)
        have mv := mv_upd (H := H) (P := P) (a := a) (o := .ext (exO a o')) pa
        have st := ((RpT.move mv kvs xs h5).store h3 h4 (Rp.move mv _ _ rk') rv (Rp.move mv _ _ rd))
        refine ⟨st.objTag, .inl ⟨_, ⟨?_, h2, g6, o', es, ep, upd_same, g2, g3, g4⟩, st⟩⟩
        rw [← st.lenT]
        have := dPut_len kvs k d
        omega
      | m ys ky h1 h2 h3 h4 h5 =>
        have hk := keyIs_of h3 (.inl rk) ri
        refine wpAny_setItem_pairs hk h5 (fun h' hm sb => ?_) h1
        obtain ⟨o', es, ep, g1, g2, g3, g4, g5, g6⟩ := hm
        refine fin h' o' _ sb g1 (.inl ?_)
        have mv := mv_upd (H := H) (P := P) (a := a) (o := .ext (exO a o')) pa
        have st := ((RpM.move mv kvs ys h4).store h3 rv (Rp.move mv _ _ rd))
        refine ⟨st.objTag, .inr ⟨_, ⟨?_, h2, o', es, ep, upd_same, g2, g3, g4, g5, g6⟩, st⟩⟩
        rw [← st.lenM]
        have := dPut_len kvs k d
        omega
    · cases e
  · cases e
end
end LT
end
section
set_option linter.all false
set_option maxRecDepth 100000
namespace LT
open PySem PySem.Spec PyProof.Rows L2
section
variable {X : Cx} {Γ : Gam} {a b c e : Expr} {st : Stmt} {sts sts2 : List Stmt} {x y z : Ex} {s : St} {ss ss2 : List St} {it : It} {p p1 p2 pos pos' apos : Pos} {i : Nat} {n : Str}
/-- o[k] = e -/
theorem ls_setI (hu : X.A.units + 200 < cLine) (hi : X.N[i]? = some n) (hv : Vis X.env.scope n) (ha : LE X Γ a x) (hb : LE X Γ b y) (hs : swapsWithSole [.Subscript (.Name n p1) b pos'] a pos.line X.env = pure false := by rfl) (hw : swappedStores [.Subscript (.Name n p1) b pos'] a X.env = pure none := by rfl)
    (h1 : (assignEach [.Subscript (.Name n p1) b pos'] X.env).map (·.2) = [assign (.Subscript (.Name n p1) b pos') X.env] := by rfl)
    (hg : ∀ v, assign (.Subscript (.Name n p1) b pos') X.env v = (do
      let ov ← holding [v] (eval (.Name n p1) X.env)
      let iv ← holding [v, ov] (eval b X.env)
      standAt pos'
      holding [v, ov, iv] (setItem ov iv v)
      release [v, ov, iv] []) := by intro _; rfl) (hd : (n == ("__debug__" : Str)) = false := by decide) (hcd : (n == ("__classdict__" : Str)) = false := by decide) :
    LS X Γ (.Assign [.Subscript (.Name n p1) b pos'] a pos) (.setI i y x) := by
  refine PS.imp (ps_asg ha (pg_sub (pe_var hi hv hd hcd) hb (set_data hu) hg) hs hw h1) fun D σ H ⟨G, ρ, o, E, R, k⟩ => ?_
  obtain ⟨⟨h, ρ1⟩, E1, E⟩ := Option.bind_eq_some_iff.mp E
  obtain ⟨⟨d, own, ρ2⟩, E2, E⟩ := Option.bind_eq_some_iff.mp E
  obtain ⟨⟨c0, put0⟩, E20, E⟩ := Option.bind_eq_some_iff.mp E
  obtain ⟨⟨h2, ρ3⟩, E3, E⟩ := Option.bind_eq_some_iff.mp E
  obtain ⟨⟨kx, own2, ρ4⟩, E4, E⟩ := Option.bind_eq_some_iff.mp E
  obtain ⟨⟨c, put⟩, E5, E⟩ := Option.bind_eq_some_iff.mp E
  obtain ⟨c', E6, E⟩ := Option.bind_eq_some_iff.mp E
  cases E
  refine esc_give E1 E2 R fun v H1 F1 S1 R1 r1 => ?_
  obtain ⟨a0, e0, _⟩ := R1.owAt (own_some E20)
  refine ⟨.ref a0, e0, ?_⟩
  refine esc_give E3 E4 R1 fun iv H2 F2 S2 R2 r2 => ?_
  obtain ⟨a1, e1, ct, m, pa⟩ := R2.owAt (own_some E5)
  rw [e0] at e1
  cases e1
  exact ⟨Pr G ρ4 σ, a0, c, kx, d, c', rfl, pa, ct, m, r2, Rp.move (mv_later F2 S2 fun _ o => o) _ _ r1, E6, fun u mu ct' => k σ _ (R2.write (own_some E5) e0 mu ct')⟩
/-- xs.append(e) -/
theorem ls_app (hi : X.N[i]? = some n) (hv : Vis X.env.scope n) (ha : LE X Γ a x)
    (hbase : attributeBase (.Name n p1) "append" X.env (eval (.Name n p1) X.env) = eval (.Name n p1) X.env := by rfl)
    (hfew : ((backTo pos (starEach [a] X.env)).all (fun x => !x.1) && (backToKw pos (keywordEach [] X.env)).all (fun x => x.1.isSome)
      && decide ([a].length + ([] : List Keyword).length + (if ([] : List Keyword).isEmpty then 0 else 1) < 30)) = true := by rfl)
    (hline : (apos.endLine == pos.line) = true := by rfl) (hs : starEach [a] X.env = (false, eval a X.env) :: starEach [] X.env := by rfl)
    (hsw : swapsWith (.Call (.Attribute (.Name n p1) "append" apos) [a] [] pos) none pos'.line X.env = pure false := by rfl)
    (hd : (n == ("__debug__" : Str)) = false := by decide) (hcd : (n == ("__classdict__" : Str)) = false := by decide) :
    LS X Γ (.Expr (.Call (.Attribute (.Name n p1) "append" apos) [a] [] pos) pos') (.app i x) := by
  refine PS.imp (ps_expr (pe_bm PySem.F.plainAttrs_list PySem.F.slot_list_append PySem.F.type_list_append mt_append (pe_var hi hv hd hcd) (pa_cons ha pa_nil hs) hbase hfew hline hs rfl) hsw) fun D σ H ⟨G, ρ, o, E, R, k⟩ => ?_
  obtain ⟨⟨c0, put0⟩, E0, E⟩ := Option.bind_eq_some_iff.mp E
  dsimp only at E
  split at E
  · rename_i il
    obtain ⟨⟨h, ρ1⟩, E1, E⟩ := Option.bind_eq_some_iff.mp E
    obtain ⟨⟨d, own, ρ2⟩, E2, E⟩ := Option.bind_eq_some_iff.mp E
    obtain ⟨⟨c, put⟩, E3, E⟩ := Option.bind_eq_some_iff.mp E
    dsimp only at E
    obtain ⟨a0, e0, ct0, m0, _⟩ := R.owAt (own_some E0)
    refine ⟨.ref a0, e0, ?_, ?_⟩
    · cases c0 with
      | list ds =>
        obtain ⟨xs, hx, _⟩ := ct_lst ct0 m0
        exact .inl ⟨rfl, xs, .of hx⟩
      | _ => cases il
    · refine esc_give E1 E2 R fun v H1 F S R1 r1 => ?_
      split at E
      · rename_i ds
        split at E
        · rename_i hz
          cases E
          obtain ⟨a1, e1, ct, m, pa⟩ := R1.owAt (own_some E3)
          rw [e0] at e1
          cases e1
          obtain ⟨xs, hx, rl⟩ := ct_lst ct m
          refine ⟨a0, xs, v, rfl, rfl, hx, by rw [← rl.length, ← line_eq]; exact hz, ?_⟩
          exact k σ _ (R1.write (own_some E3) e0 trivial ⟨_, .inl upd_same, (rl.move (mv_upd pa)).append (.one (Rp.move (mv_upd pa) _ _ r1))⟩)
        · cases E
      · cases E
  · cases E
/-- two values, stored in two slots -/
theorem par2 {U : Su} {G : Gh} {ρ : Ro} {σ : L2.St} {H : Hp} {i j : Nat} {o : Oc} (E : sx Γ (.par [i, j] [x, y]) ρ = some o) (R : Rel U G ρ σ H) (hil : i < σ.length) (hjl' : j < σ.length) (hij : i ≠ j) {Q : V → V → Hp → Prop}
    (k : ∀ ρ', o = .nx ρ' → ∀ v w H', Rel U G ρ' ((σ.set i (some v)).set j (some w)) H' → Q v w H') : tEv U Γ x σ H fun v H1 => tEv U Γ y σ H1 fun w H2 => Q v w H2 := by
  obtain ⟨⟨ds, ρf⟩, E1, E⟩ := Option.bind_eq_some_iff.mp E
  obtain ⟨ρg, E2, E⟩ := Option.bind_eq_some_iff.mp E
  cases E
  obtain ⟨⟨ha1, ρ1⟩, F1, E1⟩ := Option.bind_eq_some_iff.mp E1
  obtain ⟨⟨d1, o1, ρ2⟩, F2, E1⟩ := Option.bind_eq_some_iff.mp E1
  obtain ⟨⟨r1, ρ3⟩, F3, E1⟩ := Option.bind_eq_some_iff.mp E1
  cases E1
  obtain ⟨⟨ha2, ρ4⟩, F4, F3⟩ := Option.bind_eq_some_iff.mp F3
  obtain ⟨⟨d2, o2, ρ5⟩, F5, F3⟩ := Option.bind_eq_some_iff.mp F3
  obtain ⟨⟨r2, ρ6⟩, F6, F3⟩ := Option.bind_eq_some_iff.mp F3
  cases F6
  cases F3
  cases E2
  refine one F1 R fun v H1 Fr1 S1 q1 => ?_
  obtain ⟨q1, S1'⟩ := q1.esc F2
  -- the second over the state as it is now
  have B := q1.rel.base
  refine ⟨q1.rel.baseG, ρ2, ha2, ρ4, F4, B, fun w H2 Fr2 S2 q2 => ?_⟩
  obtain ⟨q2, S2'⟩ := q2.esc F5
  have mvA := q2.apart q1.rel Fr2 (S2'.trans S2)
  have q2u := q2.unbase q1.rel
  have lenj : j < ρf.length := by rw [q2.rel.len]; exact hjl'
  have leni : i < ρf.length := by rw [q2.rel.len]; exact hil
  have R3 := q2u.put lenj
  have hpr : ∀ b, Pr (gh G (.d d1 o1) v) (ρf.set j (ownS d2 o2)) (σ.set j (some w)) b → Pr (gh (gh G (.d d1 o1) v) (.d d2 o2) w) ρf σ b := fun b z => by
    rcases z with z | ⟨l, d, z, q⟩
    · exact .inl (gh_O0 _ _ _ _ z)
    · by_cases hjl : j = l
      · subst hjl
        have hjs : j < σ.length := by rw [← q2.rel.len]; exact lenj
        rw [List.getElem?_set_self hjs] at q
        rw [Ro.at_set, if_pos ⟨rfl, lenj⟩] at z
        cases o2 with
        | false => rcases z with z | z <;> cases z
        | true => exact .inl (.inr (Option.some.inj (Option.some.inj q)))
      · rw [List.getElem?_set_ne hjl] at q
        rw [Ro.at_set, if_neg (fun y => hjl y.1)] at z
        exact .inr ⟨l, d, z, q⟩
  have val : HdV U G (ρf.set j (ownS d2 o2)) (σ.set j (some w)) H2 (.d d1 o1) v := by
    have v1 := q1.val
    cases o1 with
    | false =>
      have v1 : Rp U H1 (Pr G ρ2 σ) d1 v := v1
      exact Rp.move (fun b u e n => let ⟨e2, n2⟩ := mvA b u e n; ⟨e2, fun z => n2 (hpr b z)⟩) _ _ v1
    | true =>
      obtain ⟨a, e, ct, m, na, k0⟩ := v1
      obtain ⟨u, eu⟩ := mut_some m
      have nmu : ¬ Mu ρ2 σ a := fun z => na (.inr z)
      have ea : H2 a = some u := Fr2 a u eu nmu
      refine ⟨a, e, ct.move (fun b u e n => let ⟨e2, n2⟩ := mvA b u e n; ⟨e2, fun z => n2 (hpr b z)⟩) (fun u' z => by rw [eu] at z; cases z; exact ea), by rw [ea, ← eu]; exact m, fun z => ?_, k0⟩
      -- the second is not the first
      rcases z with z | ⟨l, d, z, q⟩
      · exact na (.inl z)
      · by_cases hjl : j = l
        · subst hjl
          have hjs : j < σ.length := by rw [← q2.rel.len]; exact lenj
          rw [List.getElem?_set_self hjs] at q
          rw [Ro.at_set, if_pos ⟨rfl, lenj⟩] at z
          cases o2 with
          | false => rcases z with z | z <;> cases z
          | true =>
            obtain ⟨a2, e2, _, _, na2, _⟩ := q2u.val
            have : w = .ref a := Option.some.inj (Option.some.inj q)
            rw [e2] at this
            cases this
            exact na2 (.inl (.inr e))
        · rw [List.getElem?_set_ne hjl] at q
          rw [Ro.at_set, if_neg (fun y => hjl y.1)] at z
          exact nmu (S2 a (S2' a ⟨l, d, z, q⟩))
  have fin := (show HdR U G (ρf.set j (ownS d2 o2)) (σ.set j (some w)) H2 (.d d1 o1) v from ⟨R3, val⟩).put (i := i) (by simpa using leni)
  have e1 : (σ.set j (some w)).set i (some v) = (σ.set i (some v)).set j (some w) := List.set_comm _ _ (Ne.symm hij)
  have e2 : (ρf.set j (ownS d2 o2)).set i (ownS d1 o1) = (ρf.set i (ownS d1 o1)).set j (ownS d2 o2) := List.set_comm _ _ (Ne.symm hij)
  rw [e1, e2] at fin
  exact k _ rfl _ _ _ fin
/-- a, b = x, y: from the right -/
theorem ls_par2 {i j : Nat} {n m : Str} {px py pt : Pos} {kt k2 pt2} (hc : X.calm = true) (hN : X.N.Nodup) (hi : X.N[i]? = some n) (hj : X.N[j]? = some m) (hij : i ≠ j)
    (hx : X.env.scope.names.lookup n = some .local) (hy : X.env.scope.names.lookup m = some .local) (ha : LE X Γ a x) (hb : LE X Γ b y)
    (hw : swappedStores [.Tuple [.Name n px, .Name m py] kt pt] (.Tuple [a, b] k2 pt2) X.env = pure (some [n, m]) := by rfl)
    (hs : swapsWithSole [.Tuple [.Name n px, .Name m py] kt pt] (.Tuple [a, b] k2 pt2) pos.line X.env = pure false := by rfl)
    (h1 : starEach [a, b] X.env = (false, eval a X.env) :: starEach [b] X.env := by rfl) (h2 : starEach [b] X.env = (false, eval b X.env) :: starEach [] X.env := by rfl) :
    LS X Γ (.Assign [.Tuple [.Name n px, .Name m py] kt pt] (.Tuple [a, b] k2 pt2) pos) (.par [i, j] [x, y]) := by
  refine PS.impL (ps_par hc hN hi hj hij hx hy (pa_cons ha (pa_cons hb pa_nil h2) h1) hw hs) fun D σ H hl ⟨G, ρ, o, E, R, k⟩ => ?_
  refine par2 E R (by rw [hl]; exact (List.getElem?_eq_some_iff.mp hi).1) (by rw [hl]; exact (List.getElem?_eq_some_iff.mp hj).1) hij fun ρ' eo v w H' R' => ⟨v, w, rfl, ?_⟩
  subst eo
  exact k _ _ R'
/-- .. by a tuple that stands for a while -/
theorem ls_par2T {i j : Nat} {n m : Str} {px py pt : Pos} {kt k2 pt2} (hc : X.calm = true) (hN : X.N.Nodup) (hi : X.N[i]? = some n) (hj : X.N[j]? = some m) (hij : i ≠ j)
    (hx : Loc X.env.scope n) (hy : Loc X.env.scope m) (ha : LE X Γ a x) (hb : LE X Γ b y)
    (hf : X.fn n = true ∨ X.env.scope.names.lookup n = some .local) (hf2 : X.fn m = true ∨ X.env.scope.names.lookup m = some .local)
    (hw : swappedStores [.Tuple [.Name n px, .Name m py] kt pt] (.Tuple [a, b] k2 pt2) X.env = pure none := by rfl)
    (hs : swapsWithSole [.Tuple [.Name n px, .Name m py] kt pt] (.Tuple [a, b] k2 pt2) pos.line X.env = pure false := by rfl)
    (g1 : (assignEach [.Tuple [.Name n px, .Name m py] kt pt] X.env).map (·.2) = [assign (.Tuple [.Name n px, .Name m py] kt pt) X.env] := by rfl)
    (g2 : (assignEach [.Name n px, .Name m py] X.env).map (·.2) = assign (.Name n px) X.env :: (assignEach [.Name m py] X.env).map (·.2) := by rfl)
    (g3 : (assignEach [.Name m py] X.env).map (·.2) = assign (.Name m py) X.env :: (assignEach [] X.env).map (·.2) := by rfl)
    (g4 : (assignEach [.Name n px, .Name m py] X.env).length = 2 := by rfl) (g5 : (assignEach [.Name n px, .Name m py] X.env).findIdx? (·.1) = none := by rfl)
    (h1 : starEach [a, b] X.env = (false, eval a X.env) :: starEach [b] X.env := by rfl) (h2 : starEach [b] X.env = (false, eval b X.env) :: starEach [] X.env := by rfl) :
    LS X Γ (.Assign [.Tuple [.Name n px, .Name m py] kt pt] (.Tuple [a, b] k2 pt2) pos) (.par [i, j] [x, y]) := by
  refine PS.impL (ps_asg (pe_tup (pa_cons ha (pa_cons hb pa_nil h2) h1)) (pg_tup hc (pgs_cons (pg_name hN hi hx hf) (pgs_cons (pg_name hN hj hy hf2) pgs_nil g3) g2) g4 g5) hs hw g1) fun D σ H hl ⟨G, ρ, o, E, R, k⟩ => ?_
  refine par2 E R (by rw [hl]; exact (List.getElem?_eq_some_iff.mp hi).1) (by rw [hl]; exact (List.getElem?_eq_some_iff.mp hj).1) hij fun ρ' eo v w H' R' => ⟨by show 2 ≤ sizeLine; decide, fun p np => ⟨p, [v, w], rfl, .of upd_same, rfl, v, [w], rfl, w, [], rfl, rfl, ?_⟩⟩
  subst eo
  exact k _ _ (R'.same (same_upd np))
end
end LT
end
section
set_option linter.all false
set_option maxRecDepth 100000
/-! Loops. -/
namespace LT
open PySem PySem.Spec PyProof.Rows L2
/-- targets -/
def gNames : List Nat → TGs
  | [] => gNil
  | i :: is => gCons (gName i) (gNames is)
def gT (K : PySem.W.Frag) : Tg → TG
  | .nm i => gName i
  | .tp is => gTup K is.length (gNames is)
section
variable {U : Su} {G : Gh} {ρ ρ' ρ1 ρ2 : Ro} {σ σ' : L2.St} {H H' H2 : Hp} {v : V} {d : D}
theorem setAll_ok : ∀ {is : List Nat} {ds : List D} {vs : List V} {ρ ρ' : Ro} {σ : L2.St} {Q : L2.St → Hp → Prop}, setAll ρ is ds = some ρ' → Rel U G ρ σ H → RpL U H (Pr G ρ σ) ds vs → (∀ σ', Rel U G ρ' σ' H → Q σ' H) → gNames is vs σ H Q
  | [], [], vs, ρ, ρ', σ, Q, e, R, r, k => by
    cases e
    exact ⟨r, k σ R⟩
  | i :: is, d :: ds, vs, ρ, ρ', σ, Q, e, R, r, k => by
    obtain ⟨v, vr, rfl, r1, r2⟩ := r
    have e : (if i < ρ.length then setAll (ρ.set i (.va d)) is ds else none) = some ρ' := e
    split at e
    · rename_i hi
      refine ⟨v, vr, rfl, ?_⟩
      have mv : Mv H (Pr G ρ σ) H (Pr G (ρ.set i (.va d)) (σ.set i (some v))) := .mono fun b z => z.imp id fun m => mu_set_va m hi
      exact setAll_ok e (R.set_va hi r1) (r2.move mv) k
    · cases e
  | [], _ :: _, _, _, _, _, _, e, _, _, _ => by cases e
  | _ :: _, [], _, _, _, _, _, e, _, _, _ => by cases e
theorem setAll_len : ∀ {is : List Nat} {ds : List D} {ρ ρ' : Ro}, setAll ρ is ds = some ρ' → is.length = ds.length
  | [], [], _, _, _ => rfl
  | i :: is, d :: ds, ρ, ρ', e => by
    have e : (if i < ρ.length then setAll (ρ.set i (.va d)) is ds else none) = some ρ' := e
    split at e
    · simp [setAll_len e]
    · cases e
  | [], _ :: _, _, _, e => by cases e
  | _ :: _, [], _, _, e => by cases e
theorem bind_ok {tg : Tg} {Q : L2.St → Hp → Prop} (e : bindT ρ tg d = some ρ') (R : Rel U G ρ σ H) (r : Rp U H (Pr G ρ σ) d v) (k : ∀ σ', Rel U G ρ' σ' H → Q σ' H) : gT U.K tg v σ H Q := by
  cases tg with
  | nm i =>
    have e : (if i < ρ.length then some (ρ.set i (.va d)) else none) = some ρ' := e
    split at e
    · rename_i hi
      cases e
      exact k _ (R.set_va hi r)
    · cases e
  | tp is =>
    cases d with
    | tuple ds =>
      have e : setAll ρ is ds = some ρ' := e
      obtain ⟨a, xs, rfl, q, rl⟩ := rv_tup (.inl r)
      exact ⟨a, xs, rfl, q, by rw [← rl.length, setAll_len e], setAll_ok e R rl k⟩
    | _ => cases e
/-- at a later turn -/
theorem Rel.lat (R1 : Rel U G ρ1 σ H) (R : Rel U R1.baseG ρ σ' H') : Lat (Pr G ρ1 σ) (Mb G ρ1 σ) H H' (Pr G ρ σ') where
  kp := fun b u e n => R.kp b u e n
  pr := fun b z => R.pr_some z
  old := fun b z => by
    rcases z with z | z
    · exact .inl (.inl z)
    · rcases (R.mu_mut z).2 with k | k
      · exact .inr k
      · exact .inl (Mb.pr k)
theorem Post.unbase (R1 : Rel U G ρ1 σ H) {D : Ends} {o : Oc} (k : Post U G D o) : Post U R1.baseG D o := by
  cases o with
  | nx ρ => exact fun σ' H' R => k σ' H' (R1.unbase R)
  | bk ρ => exact fun σ' H' R => k σ' H' (R1.unbase R)
  | ct ρ => exact fun σ' H' R => k σ' H' (R1.unbase R)
  | rt d own ρ => exact fun v σ' H' r => k v σ' H' (r.unbase R1)
end
section
variable {X : Cx} {Γ : Gam} {a b c e tg iter : Expr} {st : Stmt} {body : List Stmt} {x y z : Ex} {s : St} {ss : List St} {it : It} {p p1 p2 pos pos' apos : Pos} {t : Tg}
abbrev LG (X : Cx) (tg : Expr) (t : Tg) : Prop := PG X tg (gT X.K t)
theorem lg_nm {i : Nat} {n : Str} (hN : X.N.Nodup) (hi : X.N[i]? = some n) (hx : Loc X.env.scope n) (hf : X.fn n = true ∨ X.env.scope.names.lookup n = some .local := by first | exact .inl rfl | exact .inr rfl | assumption) : LG X (.Name n pos) (.nm i) := pg_name hN hi hx hf
theorem lg_tp {es : List Expr} {is : List Nat} {k : Nat} (hc : X.calm = true) (h : PGs X es (gNames is)) (hn : (assignEach es X.env).length = is.length := by rfl) (hst : (assignEach es X.env).findIdx? (·.1) = none := by rfl) : LG X (.Tuple es k pos) (.tp is) := pg_tup hc h hn hst
theorem lgs_nil : PGs X [] (gNames []) := pgs_nil
theorem lgs_cons {es : List Expr} {is : List Nat} {i : Nat} {n : Str} (hN : X.N.Nodup) (hi : X.N[i]? = some n) (hx : Loc X.env.scope n) (hr : PGs X es (gNames is)) (hf : X.fn n = true ∨ X.env.scope.names.lookup n = some .local := by first | exact .inl rfl | exact .inr rfl | assumption)
    (hs : (assignEach (.Name n pos :: es) X.env).map (·.2) = assign (.Name n pos) X.env :: (assignEach es X.env).map (·.2) := by rfl) : PGs X (.Name n pos :: es) (gNames (i :: is)) := pgs_cons (pg_name hN hi hx hf) hr hs
/-- a, b = a tuple -/
theorem ls_asgT {is : List Nat} (ha : LE X Γ a x) (hg : LG X tg (.tp is)) (hs : swapsWithSole [tg] a pos.line X.env = pure false := by rfl) (hw : swappedStores [tg] a X.env = pure none := by rfl)
    (h1 : (assignEach [tg] X.env).map (·.2) = [assign tg X.env] := by rfl) : LS X Γ (.Assign [tg] a pos) (.asgT is x) := by
  refine PS.imp (ps_asg ha hg hs hw h1) fun D σ H ⟨G, ρ, o, E, R, k⟩ => ?_
  obtain ⟨⟨h, ρ1⟩, E1, E⟩ := Option.bind_eq_some_iff.mp E
  obtain ⟨⟨d, own, ρ2⟩, E2, E⟩ := Option.bind_eq_some_iff.mp E
  dsimp only at E
  refine esc_give E1 E2 R fun v H1 F S R1 r1 => ?_
  split at E
  · rename_i ds
    obtain ⟨ρ3, E3, E⟩ := Option.bind_eq_some_iff.mp E
    cases E
    exact bind_ok (tg := .tp is) (show bindT ρ2 (.tp is) (.tuple ds) = some ρ3 from E3) R1 r1 fun σ' R' => k σ' _ R'
  · cases E
theorem ls_for (hp : PassesOwn (model X.prog X.w) X.A X.env X.xe) (hc : X.calm = true) (hi : LI X Γ tg iter it) (hg : LG X tg t) (hb : LSs X Γ body ss) (hs : ∀ x, foldedSetIterable iter X.env x = pure x := by intro _; rfl) :
    LS X Γ (.For tg iter body [] pos) (.for_ t it ss) := by
  refine PS.imp (ps_for hp hc hi hg hb hs) fun D σ H ⟨G, ρ, o, E, R, k⟩ => ?_
  obtain ⟨⟨ds, ρ1⟩, E1, E⟩ := Option.bind_eq_some_iff.mp E
  dsimp only at E
  refine ⟨G, ρ, ds, ρ1, E1, R, fun J H1 F S R1 Y => ?_⟩
  have E : forL (fun (d : LT.D) (r : Ro) => (bindT r t d).bind fun r1 => sxs Γ ss r1) ds ρ1 = some o := E
  generalize hf : (fun (d : LT.D) (r : Ro) => (bindT r t d).bind fun r1 => sxs Γ ss r1) = f at E
  refine ⟨fun i m σ' H' => i ≤ ds.length ∧ m = ds.length - i ∧ ∃ ρ', Rel (su X) R1.baseG ρ' σ' H' ∧ forL f (ds.drop i) ρ' = some o, ⟨_, Nat.zero_le _, rfl, ρ1, R1.base, E⟩, fun i m σ' H' w => ?_⟩
  obtain ⟨hle, hm, ρ', R', e⟩ := w
  by_cases hlt : i < ds.length
  · right
    refine ⟨Y.go i H' R'.kp hlt, fun σ2 H2 => i + 1 ≤ ds.length ∧ ∃ ρ2, Rel (su X) R1.baseG ρ2 σ2 H2 ∧ forL f (ds.drop (i + 1)) ρ2 = some o, fun σ2 H2 n => ⟨ds.length - (i + 1), by omega, n.1, rfl, n.2⟩, fun x H3 y => ?_⟩
    obtain ⟨d, e1, sm, r⟩ := Y.yld i H' _ x H3 (R1.lat R') hlt y
    have hd : ds.drop i = d :: ds.drop (i + 1) := by
      rw [List.drop_eq_getElem_cons hlt]
      rw [List.getElem?_eq_getElem hlt] at e1
      rw [Option.some.inj e1]
    rw [hd] at e
    have R3 := R'.same sm
    unfold forL at e
    cases q : f d ρ' with
    | none => rw [q] at e; cases e
    | some oc =>
      rw [q] at e
      rw [← hf] at q
      obtain ⟨r1, q1, q2⟩ := Option.bind_eq_some_iff.mp q
      refine bind_ok q1 R3 r fun σ3 R4 => ⟨R1.baseG, r1, oc, q2, R4, ?_⟩
      cases oc with
      | nx ρ3 => exact fun σ4 H4 R5 => ⟨hlt, ρ3, R5, e⟩
      | ct ρ3 => exact fun σ4 H4 R5 => ⟨hlt, ρ3, R5, e⟩
      | bk ρ3 =>
        cases e
        exact fun σ4 H4 R5 => k σ4 H4 (R1.unbase R5)
      | rt dd own ρ3 =>
        cases e
        exact fun v σ4 H4 R5 => k v σ4 H4 (R5.unbase R1)
  · left
    have e2 : ds.drop i = [] := List.drop_eq_nil_of_le (by omega)
    rw [e2] at e
    cases e
    exact ⟨Y.stop i H' R'.kp (by omega), k σ' H' (R1.unbase R')⟩
theorem ls_whl (hp : PassesOwn (model X.prog X.w) X.A X.env X.xe) (hc : LT_ X Γ c z) (hb : LSs X Γ body ss) : LS X Γ (.While c body [] pos) (.whl z ss) := by
  refine PS.imp (ps_while hp hc hb) fun D σ H ⟨G, ρ, o, E, R, k⟩ => ?_
  have E : whL (evB Γ z) (fun r => sxs Γ ss r) turns ρ = some o := E
  refine ⟨fun m σ' H' => ∃ ρ', Rel (su X) G ρ' σ' H' ∧ whL (evB Γ z) (fun r => sxs Γ ss r) m ρ' = some o, ⟨_, ρ, R, E⟩, fun m σ' H' w => ?_⟩
  obtain ⟨ρ', R', e⟩ := w
  cases m with
  | zero => cases e
  | succ m =>
    unfold whL at e
    cases q : evB Γ z ρ' with
    | none => rw [q] at e; cases e
    | some p =>
      obtain ⟨b, ρ1⟩ := p
      rw [q] at e
      refine ⟨G, ρ', b, ρ1, q, R', fun H1 F S R1 => ?_⟩
      cases b with
      | false =>
        cases e
        rw [if_neg Bool.false_ne_true]
        exact k σ' H1 R1
      | true =>
        rw [if_pos rfl]
        dsimp only at e
        refine ⟨fun σ2 H2 => ∃ ρ2, Rel (su X) G ρ2 σ2 H2 ∧ whL (evB Γ z) (fun r => sxs Γ ss r) m ρ2 = some o, fun σ2 H2 n => ⟨m, Nat.lt_succ_self m, n⟩, ?_⟩
        cases q2 : sxs Γ ss ρ1 with
        | none => rw [q2] at e; cases e
        | some oc =>
          rw [q2] at e
          refine ⟨G, ρ1, oc, q2, R1, ?_⟩
          cases oc with
          | nx ρ3 => exact fun σ4 H4 R5 => ⟨ρ3, R5, e⟩
          | ct ρ3 => exact fun σ4 H4 R5 => ⟨ρ3, R5, e⟩
          | bk ρ3 => cases e; exact fun σ4 H4 R5 => k σ4 H4 R5
          | rt dd own ρ3 => cases e; exact fun v σ4 H4 R5 => k v σ4 H4 R5
end
end LT
end
section
set_option linter.all false
set_option maxRecDepth 100000
/-! List comprehensions. -/
namespace LT
open PySem PySem.Spec PyProof.Rows L2
theorem wipeR_at : ∀ (is : List Nat) (ρ : Ro) (j : Nat), (wipeR ρ is).at j = if j ∈ is then .un else ρ.at j
  | [], ρ, j => by simp [wipeR]
  | i :: is, ρ, j => by
    show (wipeR (ρ.set i .un) is).at j = _
    rw [wipeR_at is, Ro.at_set]
    by_cases h : j ∈ is
    · simp [h]
    · by_cases hij : i = j
      · subst hij
        by_cases hl : i < ρ.length
        · simp [hl]
        · have : ρ.at i = .un := by
            unfold Ro.at
            rw [List.getD_eq_getElem?_getD, List.getElem?_eq_none (by omega)]
            rfl
          simp [hl, this, h]
      · have hji : ¬ j = i := fun z => hij z.symm
        simp [h, hij, hji]
theorem wipeR_len : ∀ (is : List Nat) (ρ : Ro), (wipeR ρ is).length = ρ.length
  | [], ρ => rfl
  | i :: is, ρ => by
    show (wipeR (ρ.set i .un) is).length = _
    rw [wipeR_len is, List.length_set]
theorem backR_at : ∀ (is : List Nat) (ρ0 ρ : Ro) (j : Nat), (∀ i ∈ is, i < ρ.length) → (backR ρ0 ρ is).at j = if j ∈ is then ρ0.at j else ρ.at j
  | [], ρ0, ρ, j, _ => by simp [backR]
  | i :: is, ρ0, ρ, j, hl => by
    show (backR ρ0 (ρ.set i (ρ0.at i)) is).at j = _
    rw [backR_at is ρ0 _ j (fun k hk => by rw [List.length_set]; exact hl k (List.mem_cons_of_mem _ hk)), Ro.at_set]
    by_cases h : j ∈ is
    · simp [h]
    · by_cases hij : i = j
      · subst hij
        simp [hl i (List.mem_cons_self ..), h]
      · have hji : ¬ j = i := fun z => hij z.symm
        simp [h, hij, hji]
theorem backR_len : ∀ (is : List Nat) (ρ0 ρ : Ro), (backR ρ0 ρ is).length = ρ.length
  | [], ρ0, ρ => rfl
  | i :: is, ρ0, ρ => by
    show (backR ρ0 (ρ.set i (ρ0.at i)) is).length = _
    rw [backR_len is, List.length_set]
theorem wipe_get (σ : L2.St) : ∀ (vs : List Nat) (j : Nat), j ∉ vs → (wipe σ vs)[j]? = σ[j]?
  | [], j, _ => rfl
  | v :: vs, j, h => by
    unfold wipe
    rw [List.getElem?_set_ne (fun z => h (by simp [z]))]
    exact wipe_get σ vs j fun z => h (List.mem_cons_of_mem _ z)
section
variable {U : Su} {G : Gh} {ρ ρ' ρ1 ρ2 : Ro} {σ σ' : L2.St} {H H' H1 H2 : Hp} {v : V} {d : D} {vs : List Nat}
/-- slots are forgotten -/
theorem Rel.wipes (R : Rel U G ρ σ H) : Rel U G (wipeR ρ vs) (wipe σ vs) H := by
  have out : ∀ {j s}, (wipeR ρ vs).at j = s → s ≠ .un → j ∉ vs ∧ ρ.at j = s := fun {j s} e n => by
    rw [wipeR_at] at e
    by_cases h : j ∈ vs
    · rw [if_pos h] at e; exact absurd e.symm n
    · rw [if_neg h] at e; exact ⟨h, e⟩
  have mu : ∀ b, Mu (wipeR ρ vs) (wipe σ vs) b → Mu ρ σ b := fun b ⟨j, e, h, q⟩ => by
    rcases h with h | h
    · obtain ⟨n, h⟩ := out h (fun z => nomatch z)
      rw [wipe_get σ vs j n] at q
      exact ⟨j, e, .inl h, q⟩
    · obtain ⟨n, h⟩ := out h (fun z => nomatch z)
      rw [wipe_get σ vs j n] at q
      exact ⟨j, e, .inr h, q⟩
  have mv : Mv H (Pr G ρ σ) H (Pr G (wipeR ρ vs) (wipe σ vs)) := .mono fun b z => z.imp id (mu b)
  refine ⟨by rw [wipeR_len, wipe_length]; exact R.len, fun j e q => ?_, fun j e q => ?_, fun j e q => ?_, fun j e q => ?_, fun j k e f b q1 q2 q3 q4 => ?_, R.kp, R.o0⟩
  · obtain ⟨n, q⟩ := out q (fun z => nomatch z)
    obtain ⟨w, e1, r⟩ := R.va j e q
    exact ⟨w, by rw [wipe_get σ vs j n]; exact e1, r.move mv⟩
  · obtain ⟨n, q⟩ := out q (fun z => nomatch z)
    obtain ⟨w, e1, r, m⟩ := R.ow j e q
    exact ⟨w, by rw [wipe_get σ vs j n]; exact e1, r.move mv fun _ z => z, m⟩
  · obtain ⟨n, q⟩ := out q (fun z => nomatch z)
    obtain ⟨w, e1, r, m⟩ := R.io j e q
    exact ⟨w, by rw [wipe_get σ vs j n]; exact e1, r.move mv fun _ z => z, m⟩
  · obtain ⟨n, q⟩ := out q (fun z => nomatch z)
    obtain ⟨w, e1, r⟩ := R.bo j e q
    refine ⟨w, by rw [wipe_get σ vs j n]; exact e1, ?_⟩
    rcases r with r | ⟨b, ea, r, k⟩
    · exact .inl (r.move mv)
    · exact .inr ⟨b, ea, r.move mv fun _ z => z, k⟩
  · have l1 : j ∉ vs ∧ (ρ.at j = .ow e ∨ ρ.at j = .io e) := by
      rcases q1 with q | q
      · exact ⟨(out q (fun z => nomatch z)).1, .inl (out q (fun z => nomatch z)).2⟩
      · exact ⟨(out q (fun z => nomatch z)).1, .inr (out q (fun z => nomatch z)).2⟩
    have l2 : k ∉ vs ∧ (ρ.at k = .ow f ∨ ρ.at k = .io f) := by
      rcases q2 with q | q
      · exact ⟨(out q (fun z => nomatch z)).1, .inl (out q (fun z => nomatch z)).2⟩
      · exact ⟨(out q (fun z => nomatch z)).1, .inr (out q (fun z => nomatch z)).2⟩
    rw [wipe_get σ vs j l1.1] at q3
    rw [wipe_get σ vs k l2.1] at q4
    exact R.inj j k e f b l1.2 l2.2 q3 q4
theorem wipes_mu {b : Addr} (m : Mu (wipeR ρ vs) (wipe σ vs) b) : Mu ρ σ b := by
  obtain ⟨j, e, h, q⟩ := m
  by_cases n : j ∈ vs
  · rw [wipeR_at, if_pos n] at h
    rcases h with h | h <;> cases h
  · rw [wipeR_at, if_neg n] at h
    rw [wipe_get σ vs j n] at q
    exact ⟨j, e, h, q⟩
/-- an object that nobody's slot meets changes -/
theorem Rel.updO (R : Rel U G ρ σ H) {p : Addr} {o : HO} (hp : G.O0 p) (h0 : G.H0 p = none) (ha : ∀ i, ¬ G.A i p) : Rel U G ρ σ (upd H p o) := by
  have mv : Mv H (Pr G ρ σ) (upd H p o) (Pr G ρ σ) := mv_upd (.inl hp)
  refine ⟨R.len, fun j e q => ?_, fun j e q => ?_, fun j e q => ?_, fun j e q => ?_, R.inj, fun b u e n => ?_, fun b z => ?_⟩
  · obtain ⟨w, e1, r⟩ := R.va j e q
    exact ⟨w, e1, r.move mv⟩
  · obtain ⟨w, e1, r, m, n, k⟩ := R.ow j e q
    have ne : w ≠ p := fun z => n (by rw [z]; exact hp)
    exact ⟨w, e1, r.move mv fun _ z => by rw [upd_ne ne]; exact z, by rw [upd_ne ne]; exact m, n, k⟩
  · obtain ⟨w, e1, r, m, n⟩ := R.io j e q
    have ne : w ≠ p := fun z => ha j (by rw [← z]; exact n)
    exact ⟨w, e1, r.move mv fun _ z => by rw [upd_ne ne]; exact z, by rw [upd_ne ne]; exact m, n⟩
  · obtain ⟨w, e1, r⟩ := R.bo j e q
    refine ⟨w, e1, ?_⟩
    rcases r with r | ⟨b, ea, r, k⟩
    · exact .inl (r.move mv)
    · have ne : b ≠ p := fun z => (G.bi b k).1 (by rw [z]; exact h0)
      exact .inr ⟨b, ea, r.move mv fun _ z => by rw [upd_ne ne]; exact z, k⟩
  · have ne : b ≠ p := fun z => by rw [z, h0] at e; cases e
    rw [upd_ne ne]
    exact R.kp b u e n
  · by_cases h : b = p
    · rw [h, upd_same]; exact fun z => nomatch z
    · rw [upd_ne h]; exact R.o0 b z
/-- behind a comprehension -/
theorem Rel.merge {De : Addr} {r : Ro} {He : Hp} (R1 : Rel U G ρ1 σ H1) (nD : H1 De = none) (R : Rel U (R1.baseG.addV (.ref De)) (wipeR r vs) (wipe σ vs) He) (fr : ∀ i ∈ vs, (ρ1.at i).free = true) (hlr : ∀ i ∈ vs, i < r.length)
    (kf : ∀ b u, H1 b = some u → ¬ Mu ρ1 σ b → He b = some u) : Rel U (G.addV (.ref De)) (backR ρ1 r vs) σ He ∧ ∀ b, Mu (backR ρ1 r vs) σ b → Mu (wipeR r vs) (wipe σ vs) b := by
  have at_ : ∀ j, (backR ρ1 r vs).at j = if j ∈ vs then ρ1.at j else (wipeR r vs).at j := fun j => by
    rw [backR_at vs ρ1 r j hlr, wipeR_at]
    by_cases h : j ∈ vs <;> simp [h]
  have fre : ∀ {j e}, j ∈ vs → ¬ (ρ1.at j = .ow e ∨ ρ1.at j = .io e) := fun {j e} hj z => by
    have q := fr j hj
    rcases z with z | z <;> (rw [z] at q; cases q)
  have outM : ∀ {j e}, ((backR ρ1 r vs).at j = .ow e ∨ (backR ρ1 r vs).at j = .io e) → j ∉ vs ∧ ((wipeR r vs).at j = .ow e ∨ (wipeR r vs).at j = .io e) := fun {j e} z => by
    rw [at_] at z
    by_cases hj : j ∈ vs
    · rw [if_pos hj] at z; exact absurd z (fre hj)
    · rw [if_neg hj] at z; exact ⟨hj, z⟩
  have mu : ∀ b, Mu (backR ρ1 r vs) σ b → Mu (wipeR r vs) (wipe σ vs) b := fun b ⟨j, e, h, q⟩ => by
    obtain ⟨n, h⟩ := outM h
    exact ⟨j, e, h, by rw [wipe_get σ vs j n]; exact q⟩
  have mvR : Mv He (Pr (R1.baseG.addV (.ref De)) (wipeR r vs) (wipe σ vs)) He (Pr (G.addV (.ref De)) (backR ρ1 r vs) σ) := .mono fun b z => z.imp id (mu b)
  have notNew : ∀ b u, H1 b = some u → ¬ Pr G ρ1 σ b → ¬ Pr (G.addV (.ref De)) (backR ρ1 r vs) σ b := fun b u e n z => by
    rcases z with (z | z) | z
    · exact n (.inl z)
    · cases z; rw [nD] at e; cases e
    · rcases (R.mu_mut (mu b z)).2 with k | k
      · have k : H1 b = none := k
        rw [k] at e; cases e
      · exact n (Mb.pr k)
  have mv1 : Mv H1 (Pr G ρ1 σ) He (Pr (G.addV (.ref De)) (backR ρ1 r vs) σ) := fun b u e n => ⟨kf b u e fun z => n (.inr z), notNew b u e n⟩
  refine ⟨⟨?_, fun j e q => ?_, fun j e q => ?_, fun j e q => ?_, fun j e q => ?_, fun j k e f b q1 q2 q3 q4 => ?_, fun b u e n => ?_, fun b z => ?_⟩, mu⟩
  · rw [backR_len, ← wipeR_len vs r, R.len, wipe_length]
  · rw [at_] at q
    by_cases hj : j ∈ vs
    · rw [if_pos hj] at q
      obtain ⟨w, e1, r1⟩ := R1.va j e q
      exact ⟨w, e1, r1.move mv1⟩
    · rw [if_neg hj] at q
      obtain ⟨w, e1, r1⟩ := R.va j e q
      exact ⟨w, by rw [wipe_get σ vs j hj] at e1; exact e1, r1.move mvR⟩
  · obtain ⟨hj, q⟩ := outM (.inl q)
    rcases q with q | q
    · obtain ⟨w, e1, r1, m, n, k⟩ := R.ow j e q
      exact ⟨w, by rw [wipe_get σ vs j hj] at e1; exact e1, r1.move mvR fun _ z => z, m, n, R1.old k⟩
    · rename_i q0
      rw [at_, if_neg hj, q] at q0
      cases q0
  · obtain ⟨hj, q⟩ := outM (.inr q)
    rcases q with q | q
    · rename_i q0
      rw [at_, if_neg hj, q] at q0
      cases q0
    · obtain ⟨w, e1, r1, m, n⟩ := R.io j e q
      exact ⟨w, by rw [wipe_get σ vs j hj] at e1; exact e1, r1.move mvR fun _ z => z, m, n⟩
  · rw [at_] at q
    by_cases hj : j ∈ vs
    · rw [if_pos hj] at q
      obtain ⟨w, e1, r1⟩ := R1.bo j e q
      refine ⟨w, e1, ?_⟩
      rcases r1 with r1 | ⟨b, ea, r1, k⟩
      · exact .inl (r1.move mv1)
      · exact .inr ⟨b, ea, r1.move mv1 fun u z => kf b u z (R1.bo_mu k), k⟩
    · rw [if_neg hj] at q
      obtain ⟨w, e1, r1⟩ := R.bo j e q
      refine ⟨w, by rw [wipe_get σ vs j hj] at e1; exact e1, ?_⟩
      rcases r1 with r1 | ⟨b, ea, r1, k⟩
      · exact .inl (r1.move mvR)
      · exact .inr ⟨b, ea, r1.move mvR fun _ z => z, k⟩
  · obtain ⟨n1, q1⟩ := outM q1
    obtain ⟨n2, q2⟩ := outM q2
    exact R.inj j k e f b q1 q2 (by rw [wipe_get σ vs j n1]; exact q3) (by rw [wipe_get σ vs k n2]; exact q4)
  · have e1 := R1.kp b u e n
    exact R.kp b u e1 (R1.kp_mb e n)
  · exact R.o0 b z
end
theorem gNames_mono {P Q : L2.St → Hp → Prop} (k : ∀ σ H, P σ H → Q σ H) : ∀ {is : List Nat} {xs : List V} {σ : L2.St} {H : Hp}, gNames is xs σ H P → gNames is xs σ H Q
  | [], _, _, _, h => ⟨h.1, k _ _ h.2⟩
  | _ :: _, _, _, _, ⟨v, r, e, h⟩ => ⟨v, r, e, gNames_mono k h⟩
theorem gT_mono {K : PySem.W.Frag} {tg : Tg} {v : V} {σ : L2.St} {H : Hp} {P Q : L2.St → Hp → Prop} (h : gT K tg v σ H P) (k : ∀ σ H, P σ H → Q σ H) : gT K tg v σ H Q := by
  cases tg with
  | nm i => exact k _ _ h
  | tp is =>
    obtain ⟨a, xs, e, q, l, h⟩ := h
    exact ⟨a, xs, e, q, l, gNames_mono k h⟩
theorem wipe_in : ∀ (vs : List Nat) (τ : L2.St) (j : Nat), j ∈ vs → (wipe τ vs)[j]? = if j < τ.length then some none else none
  | [], _, _, h => by cases h
  | v :: vs, τ, j, h => by
    unfold wipe
    have hl := wipe_length τ vs
    by_cases hv : v = j
    · subst hv
      by_cases hlt : v < τ.length
      · rw [if_pos hlt, List.getElem?_set_self (by rw [hl]; exact hlt)]
      · rw [if_neg hlt, List.getElem?_eq_none (by rw [List.length_set, hl]; omega)]
    · rw [List.getElem?_set_ne hv]
      refine wipe_in vs τ j ?_
      rcases List.mem_cons.mp h with z | z
      · exact absurd z.symm hv
      · exact z
theorem wipe_wipe (σ : L2.St) (vs : List Nat) : wipe (wipe σ vs) vs = wipe σ vs := by
  apply List.ext_getElem?
  intro j
  by_cases hj : j ∈ vs
  · rw [wipe_in vs _ j hj, wipe_in vs _ j hj, wipe_length]
  · rw [wipe_get _ vs j hj]
/-- what the target's store leaves -/
theorem wipe_self (σ : L2.St) (vs : List Nat) (i : Nat) (x : Option V) (hi : i ∈ vs) : wipe (σ.set i x) vs = wipe σ vs := by
  apply List.ext_getElem?
  intro j
  by_cases hj : j ∈ vs
  · rw [wipe_in vs _ j hj, wipe_in vs _ j hj, List.length_set]
  · rw [wipe_get _ vs j hj, wipe_get _ vs j hj, List.getElem?_set_ne (fun z => hj (by rw [← z]; exact hi))]
theorem setAll_at : ∀ {is : List Nat} {ds : List D} {ρ ρ' : Ro}, setAll ρ is ds = some ρ' → ∀ j s, ρ'.at j = s → (∀ d, s ≠ .va d) → j ∉ is ∧ ρ.at j = s
  | [], [], ρ, ρ', e, j, s, h, n => by cases e; exact ⟨by simp, h⟩
  | i :: is, d :: ds, ρ, ρ', e, j, s, h, n => by
    have e : (if i < ρ.length then setAll (ρ.set i (.va d)) is ds else none) = some ρ' := e
    split at e
    · rename_i hi
      obtain ⟨h1, h2⟩ := setAll_at e j s h n
      rw [Ro.at_set] at h2
      by_cases hij : i = j
      · rw [if_pos ⟨hij, hi⟩] at h2; exact absurd h2.symm (n d)
      · rw [if_neg (fun z => hij z.1)] at h2
        exact ⟨by simp only [List.mem_cons, not_or]; exact ⟨fun z => hij z.symm, h1⟩, h2⟩
    · cases e
  | [], _ :: _, _, _, e, _, _, _, _ => by cases e
  | _ :: _, [], _, _, e, _, _, _, _ => by cases e
theorem bind_at {tg : Tg} {d : D} {ρ ρ' : Ro} (e : bindT ρ tg d = some ρ') (j : Nat) (s : Sl) (h : ρ'.at j = s) (n : ∀ d, s ≠ .va d) : j ∉ tg.slots ∧ ρ.at j = s := by
  cases tg with
  | nm i =>
    have e : (if i < ρ.length then some (ρ.set i (.va d)) else none) = some ρ' := e
    split at e
    · rename_i hi
      cases e
      rw [Ro.at_set] at h
      by_cases hij : i = j
      · rw [if_pos ⟨hij, hi⟩] at h; exact absurd h.symm (n d)
      · rw [if_neg (fun z => hij z.1)] at h
        exact ⟨by simp only [Tg.slots, List.mem_singleton]; exact fun z => hij z.symm, h⟩
    · cases e
  | tp is =>
    cases d with
    | tuple ds => exact setAll_at (show setAll ρ is ds = some ρ' from e) j s h n
    | _ => cases e
theorem bind_mu {tg : Tg} {d : D} {r r1 : Ro} {vs : List Nat} {σ σ2 : L2.St} (e : bindT (wipeR r vs) tg d = some r1) (hw : wipe σ2 vs = wipe σ vs) (b : Addr) (m : Mu r1 σ2 b) : Mu (wipeR r vs) (wipe σ vs) b := by
  obtain ⟨j, f, h, q⟩ := m
  have go : ∀ s, r1.at j = s → (∀ d, s ≠ .va d) → s ≠ .un → (wipeR r vs).at j = s ∧ (wipe σ vs)[j]? = σ2[j]? := fun s h n nu => by
    obtain ⟨_, h2⟩ := bind_at e j s h n
    have nj : j ∉ vs := fun z => by rw [wipeR_at, if_pos z] at h2; exact nu h2.symm
    exact ⟨h2, by rw [← hw, wipe_get σ2 vs j nj]⟩
  rcases h with h | h
  · obtain ⟨h1, h2⟩ := go _ h (fun _ z => nomatch z) (fun z => nomatch z)
    exact ⟨j, f, .inl h1, by rw [h2]; exact q⟩
  · obtain ⟨h1, h2⟩ := go _ h (fun _ z => nomatch z) (fun z => nomatch z)
    exact ⟨j, f, .inr h1, by rw [h2]; exact q⟩
theorem gNames_wipe {vs : List Nat} {H : Hp} : ∀ {is : List Nat} {xs : List V} {σ : L2.St} {Q : L2.St → Hp → Prop}, (∀ i ∈ is, i ∈ vs) → gNames is xs σ H Q → gNames is xs σ H fun σ2 H2 => wipe σ2 vs = wipe σ vs ∧ Q σ2 H2
  | [], xs, σ, Q, _, h => ⟨h.1, rfl, h.2⟩
  | i :: is, xs, σ, Q, hv, h => by
    obtain ⟨v, r, e, h⟩ := h
    refine ⟨v, r, e, ?_⟩
    have q := gNames_wipe (vs := vs) (H := H) (Q := Q) (fun k hk => hv k (List.mem_cons_of_mem _ hk)) h
    have e := wipe_self σ vs i (some v) (hv i (List.mem_cons_self ..))
    rw [e] at q
    exact q
theorem gT_wipe {K : PySem.W.Frag} {tg : Tg} {vs : List Nat} {v : V} {σ : L2.St} {H : Hp} {Q : L2.St → Hp → Prop} (hv : ∀ i ∈ tg.slots, i ∈ vs) (h : gT K tg v σ H Q) : gT K tg v σ H fun σ2 H2 => wipe σ2 vs = wipe σ vs ∧ Q σ2 H2 := by
  cases tg with
  | nm i => exact ⟨wipe_self σ vs i _ (hv i (List.mem_cons_self ..)), h⟩
  | tp is =>
    obtain ⟨a, xs, e, q, l, h⟩ := h
    exact ⟨a, xs, e, q, l, gNames_wipe hv h⟩
end LT
end
section
set_option linter.all false
set_option maxRecDepth 100000
namespace LT
open PySem PySem.Spec PyProof.Rows L2
/-- one turn of a comprehension -/
def turnC (Γ : Gam) (elt : Ex) (tg : Tg) (c : Ex) (d : D) (r : Ro) : Option (Option D × Ro) :=
  (bindT (wipeR r tg.slots) tg d).bind fun r1 => (boolH (ev Γ c r1)).bind fun p => if p.1 then (ev Γ elt p.2).bind fun q => (esc q.2 q.1).bind fun w => some (some w.1, w.2.2) else some (none, p.2)
theorem evComp_some {Γ : Gam} {elt c : Ex} {tg : Tg} {it : It} {ρ ρ' : Ro} {h : Hd} (E : ev Γ (.comp elt tg it c) ρ = some (h, ρ')) : ∃ ds ρ1 xs ρ2, evI Γ it ρ = some (ds, ρ1) ∧ (∀ i ∈ tg.slots, (ρ1.at i).free = true ∧ i < ρ1.length) ∧ cmpL (turnC Γ elt tg c) ds ρ1 = some (xs, ρ2) ∧ xs.length ≤ line ∧ h = .d (.list xs) true ∧ ρ' = backR ρ1 ρ2 tg.slots := by
  obtain ⟨⟨ds, ρ1⟩, E1, E⟩ := Option.bind_eq_some_iff.mp E
  dsimp only at E
  split at E
  · rename_i hf
    obtain ⟨⟨xs, ρ2⟩, E2, E⟩ := Option.bind_eq_some_iff.mp E
    dsimp only at E
    split at E
    · rename_i hl
      cases E
      exact ⟨ds, ρ1, xs, ρ2, E1, by simpa using hf, E2, hl, rfl, rfl⟩
    · cases E
  · cases E
theorem cmpL_some {f : D → Ro → Option (Option D × Ro)} {d : D} {ds : List D} {ρ ρ' : Ro} {xs : List D} (h : cmpL f (d :: ds) ρ = some (xs, ρ')) : ∃ o ρ1 r, f d ρ = some (o, ρ1) ∧ cmpL f ds ρ1 = some (r, ρ') ∧ xs = (match o with | some x => x :: r | none => r) := by
  obtain ⟨⟨o, ρ1⟩, e1, h⟩ := Option.bind_eq_some_iff.mp h
  cases q : cmpL f ds ρ1 with
  | none =>
    dsimp only at h
    rw [q] at h
    cases h
  | some p =>
    obtain ⟨r, ρ2⟩ := p
    dsimp only at h
    rw [q] at h
    cases o with
    | none => cases h; exact ⟨none, ρ1, r, e1, q, rfl⟩
    | some x => cases h; exact ⟨some x, ρ1, r, e1, q, rfl⟩
section
variable {U : Su} {Γ : Gam} {elt c : Ex} {tg : Tg} {it : It} {σ : L2.St} {H : Hp} {Q : VK}
theorem lcs_of (t : tEv U Γ (.comp elt tg it c) σ H Q) : tLc (tItr U Γ it) (gT U.K tg) (tTs U Γ c) (tEv U Γ elt) tg.slots σ H Q := by
  obtain ⟨G, ρ, h, ρ', E, R, k⟩ := t
  obtain ⟨ds, ρ1, total, ρ2, E1, fr, E2, hl, rfl, rfl⟩ := evComp_some E
  refine ⟨G, ρ, ds, ρ1, E1, R, fun J H1 F S R1 Y De nD => ?_⟩
  generalize hvs : tg.slots = vs at fr k ⊢
  have hO : ¬ G.O0 De := fun z => R1.o0 De z nD
  have hA : ∀ i, ¬ G.A i De := fun i z => hO (G.ao i De z)
  -- the invariant
  refine ⟨fun i m H' => i ≤ ds.length ∧ m = ds.length - i ∧ ∃ r xs acc rest, Rel U (R1.baseG.addV (.ref De)) (wipeR r vs) (wipe σ vs) H' ∧ H' De = some (.lst acc) ∧ RpL U H' (Pr (R1.baseG.addV (.ref De)) (wipeR r vs) (wipe σ vs)) xs acc ∧
    cmpL (turnC Γ elt tg c) (ds.drop i) r = some (rest, ρ2) ∧ xs ++ rest = total ∧ (∀ b u, H1 b = some u → ¬ Mu ρ1 σ b → H' b = some u) ∧ (∀ b, Mu (wipeR r vs) (wipe σ vs) b → Mu ρ1 σ b),
    ⟨_, Nat.zero_le _, rfl, ρ1, [], [], total, (R1.base.fresh nD).wipes, upd_same, rfl, E2, rfl, fun b u e _ => by rw [upd_ne (ne_of_none e nD)]; exact e, fun b z => wipes_mu z⟩, fun i m H' w => ?_⟩
  obtain ⟨hle, hm, r, xs, acc, rest, R', hD, rl, e, htot, kf, sb⟩ := w
  have kp' : Kp (Mb G ρ1 σ) H1 H' := fun b u e n => kf b u e fun z => n (.inl z)
  by_cases hlt : i < ds.length
  · right
    refine ⟨Y.go i H' kp' hlt, fun H2 => i + 1 ≤ ds.length ∧ ∃ r xs acc rest, Rel U (R1.baseG.addV (.ref De)) (wipeR r vs) (wipe σ vs) H2 ∧ H2 De = some (.lst acc) ∧ RpL U H2 (Pr (R1.baseG.addV (.ref De)) (wipeR r vs) (wipe σ vs)) xs acc ∧
      cmpL (turnC Γ elt tg c) (ds.drop (i + 1)) r = some (rest, ρ2) ∧ xs ++ rest = total ∧ (∀ b u, H1 b = some u → ¬ Mu ρ1 σ b → H2 b = some u) ∧ (∀ b, Mu (wipeR r vs) (wipe σ vs) b → Mu ρ1 σ b),
      fun H2 n => ⟨ds.length - (i + 1), by omega, n.1, rfl, n.2⟩, fun x H3 y => ?_⟩
    obtain ⟨d, e1, sm, rx⟩ := Y.yld i H' (Pr (R1.baseG.addV (.ref De)) (wipeR r vs) (wipe σ vs)) x H3 ⟨kp', fun b z => R'.pr_some z, fun b z => by
      rcases z with (z | z) | z
      · exact .inl (.inl z)
      · cases z; exact .inr nD
      · exact .inl (.inr (sb b z))⟩ hlt y
    have hd : ds.drop i = d :: ds.drop (i + 1) := by
      rw [List.drop_eq_getElem_cons hlt]
      rw [List.getElem?_eq_getElem hlt] at e1
      rw [Option.some.inj e1]
    rw [hd] at e
    obtain ⟨o, r4, rest', e2, e3, e⟩ := cmpL_some e
    obtain ⟨r1, q1, e2⟩ := Option.bind_eq_some_iff.mp e2
    obtain ⟨⟨b, r2⟩, q2, e2⟩ := Option.bind_eq_some_iff.mp e2
    have R3 := R'.same sm
    have hD3 : H3 De = some (.lst acc) := sm _ _ hD
    have rl3 : RpL U H3 (Pr (R1.baseG.addV (.ref De)) (wipeR r vs) (wipe σ vs)) xs acc := rl.move (.frame fun b u e _ => sm b u e)
    have kf3 : ∀ b u, H1 b = some u → ¬ Mu ρ1 σ b → H3 b = some u := fun b u e n => sm b u (kf b u e n)
    rw [hvs] at q1
    -- the target is stored: what is true of it stays
    have bk := bind_ok (Q := fun σ2 H2 => Rel U (R1.baseG.addV (.ref De)) r1 σ2 H2 ∧ H2 = H3) q1 R3 rx fun σ2 R4 => ⟨R4, rfl⟩
    refine gT_mono (gT_wipe (vs := vs) (by rw [← hvs]; exact fun i hi => hi) bk) fun σ2 H2 ⟨hw, R4, e4⟩ => ?_
    subst e4
    have hw : wipe σ2 vs = wipe σ vs := by first | exact hw | (rw [wipe_wipe] at hw; exact hw)
    refine ⟨by first | exact hw | (rw [wipe_wipe]; exact hw), ?_⟩
    have mu1 : ∀ b, Mu r1 σ2 b → Mu (wipeR r vs) (wipe σ vs) b := fun b z => bind_mu q1 hw b z
    obtain ⟨hh, q3, q4⟩ := boolH_some q2
    refine tTs_rel q3 q4 R4 fun H5 F5 S5 R5 => ?_
    have hmu5 : ∀ b, Mu r2 σ2 b → Mu ρ1 σ b := fun b z => sb b (mu1 b (S5 b z))
    have pr5 : ∀ b, Pr (R1.baseG.addV (.ref De)) r2 σ2 b → Pr (R1.baseG.addV (.ref De)) (wipeR r vs) (wipe σ vs) b := fun b z => z.imp id fun z => mu1 b (S5 b z)
    have hDm : ∀ {r : Ro} {τ : L2.St}, (∀ b, Mu r τ b → Mu ρ1 σ b) → ¬ Mu r τ De := fun hm z => by
      obtain ⟨u, e⟩ := mut_some (R1.mu_mut (hm De z)).1
      rw [nD] at e; cases e
    have hm1 : ∀ b, Mu r1 σ2 b → Mu ρ1 σ b := fun b z => sb b (mu1 b z)
    have hD5 : H5 De = some (.lst acc) := F5 De _ hD3 (hDm hm1)
    have mv5 : Mv H2 (Pr (R1.baseG.addV (.ref De)) (wipeR r vs) (wipe σ vs)) H5 (Pr (R1.baseG.addV (.ref De)) r2 σ2) := fun b u eb nb => ⟨F5 b u eb fun z => nb (.inr (mu1 b z)), fun z => nb (pr5 b z)⟩
    have rl5 := rl3.move mv5
    have kf5 : ∀ b u, H1 b = some u → ¬ Mu ρ1 σ b → H5 b = some u := fun b u e n => F5 b u (kf3 b u e n) fun z => n (hm1 b z)
    cases b with
    | false =>
      rw [if_neg Bool.false_ne_true]
      cases e2
      have e : rest = rest' := e
      subst e
      have R6 := R5.wipes (vs := vs)
      rw [hw] at R6
      refine ⟨hlt, r2, xs, acc, rest, R6, hD5, rl5.move (.mono fun b z => z.imp id fun z => ?_), e3, htot, kf5, fun b z => ?_⟩
      · rw [← hw] at z; exact hmu5 b (wipes_mu z)
      · rw [← hw] at z; exact wipes_mu z
    | true =>
      rw [if_pos rfl]
      obtain ⟨⟨h2, r3⟩, q5, e2⟩ := Option.bind_eq_some_iff.mp e2
      obtain ⟨⟨x2, own, r4'⟩, q6, e2⟩ := Option.bind_eq_some_iff.mp e2
      cases e2
      have e : rest = x2 :: rest' := e
      subst e
      refine esc_give q5 q6 R5 fun yv H6 F6 S6 R6 r6 => ?_
      have hmu6 : ∀ b, Mu r4' σ2 b → Mu ρ1 σ b := fun b z => hmu5 b (S6 b z)
      have hD6 : H6 De = some (.lst acc) := F6 De _ hD5 (hDm hmu5)
      have mv6 : Mv H5 (Pr (R1.baseG.addV (.ref De)) r2 σ2) H6 (Pr (R1.baseG.addV (.ref De)) r4' σ2) := fun b u eb nb => ⟨F6 b u eb fun z => nb (.inr z), fun z => nb (z.imp id (S6 b))⟩
      have rl6 := rl5.move mv6
      have pD : Pr (R1.baseG.addV (.ref De)) r4' σ2 De := .inl (.inr rfl)
      have mvD := mv_upd (H := H6) (o := .lst (acc ++ [yv])) pD
      refine ⟨acc, hD6, ?_, hlt, r4', xs ++ [x2], acc ++ [yv], rest', ?_, upd_same, ?_, e3, by rw [List.append_assoc]; exact htot, fun b u e n => ?_, fun b z => ?_⟩
      · have l1 := rl6.length
        have l2 : xs.length + (rest'.length + 1) = total.length := by rw [← htot]; simp
        rw [line_eq] at hl
        omega
      · have R7 := (R6.updO (p := De) (o := .lst (acc ++ [yv])) (.inr rfl) nD hA).wipes (vs := vs)
        rw [hw] at R7
        exact R7
      · have r7 := (rl6.move mvD).append (.one (Rp.move mvD _ _ r6))
        exact r7.move (.mono fun b z => z.imp id fun z => by rw [← hw] at z; exact wipes_mu z)
      · rw [upd_ne (ne_of_none e nD)]
        exact F6 b u (kf5 b u e n) fun z => n (hmu5 b z)
      · rw [← hw] at z; exact hmu6 b (wipes_mu z)
  · left
    have e2 : ds.drop i = [] := List.drop_eq_nil_of_le (by omega)
    rw [e2] at e
    cases e
    rw [List.append_nil] at htot
    subst htot
    have hlr : ∀ i ∈ vs, i < ρ2.length := fun i hi => by
      have := (fr i hi).2
      rw [← wipeR_len vs ρ2, R'.len, wipe_length, ← R1.len]
      exact this
    obtain ⟨Rm, mum⟩ := R1.merge (vs := vs) nD R' (fun i hi => (fr i hi).1) hlr kf
    refine ⟨Y.stop i H' kp' (by omega), k (.ref De) H' (fun b u e n => kf b u (F b u e n) fun z => n (S b z)) (fun b z => S b (sb b (mum b z))) ⟨Rm, De, rfl, ⟨acc, .inl hD, rl.move (.mono fun b z => z.imp id (mum b))⟩, by rw [hD]; trivial, fun z => ?_, R1.old (.inl nD)⟩⟩
    rcases z with z | z
    · exact hO z
    · obtain ⟨u, e⟩ := mut_some (R1.mu_mut (sb _ (mum _ z))).1
      rw [nD] at e; cases e
end
end LT
end
section
set_option linter.all false
set_option maxRecDepth 100000
/-! tuple(..), list(..), sorted(..), sum(..), [::-1]; comprehensions in their places. -/
namespace LT
open PySem PySem.Spec PyProof.Rows L2
section
variable {X : Cx} {Γ : Gam} {a b c e tg iter elt : Expr} {ifs : List Expr} {x y z ex cx : Ex} {it : It} {p p1 p2 p3 pos pos' apos : Pos} {t : Tg} {scope : Scope} {own : List (Str × Nat)}
structure LTs (X : Cx) (Γ : Gam) (ifs : List Expr) (c : Ex) : Prop where
  pts : PTs X ifs (tTs (su X) Γ c)
theorem lts_nil : LTs X Γ [] (.k (.bool true)) := ⟨⟨fun pins s σ H Q I ⟨G, ρ, b, ρ', E, R, k⟩ => by
  have q : some (true, ρ) = some (b, ρ') := E
  cases q
  exact pts_nil.run pins s σ H Q I (k H .refl .refl R)⟩⟩
theorem lts_one (h : LT_ X Γ a x) : LTs X Γ [a] x := ⟨pts_one h⟩
theorem le_comp (hc : X.calm = true) (hN : X.N.Nodup) (hi : LI X Γ tg iter it) (ok : BlkOk X.N X.env.scope scope own) (hown : own.map (·.2) = t.slots)
    (hg : ∀ (s : Shared) (H : Hp) (C : Addr) (cl : List (Str × Addr)) (fp : List Addr), LG (X.blk s H scope (compEnvC scope cl C X.env) fp) tg t)
    (ht : ∀ (s : Shared) (H : Hp) (C : Addr) (cl : List (Str × Addr)) (fp : List Addr), LTs (X.blk s H scope (compEnvC scope cl C X.env) fp) Γ ifs cx)
    (he : ∀ (s : Shared) (H : Hp) (C : Addr) (cl : List (Str × Addr)) (fp : List Addr), LE (X.blk s H scope (compEnvC scope cl C X.env) fp) Γ elt ex) (hs : ∀ x, foldedSetIterable iter X.env x = pure x := by intro _; rfl) :
    LE X Γ (.ListComp elt [⟨tg, iter, ifs, 0⟩] scope pos) (.comp ex t it cx) :=
  PE.imp (pe_lc hc hN hi ok hg (fun s H C cl fp => (ht s H C cl fp).pts) he hs) fun σ H Q q => by rw [hown]; exact lcs_of q
/-- name = [..] -/
theorem ls_asgC {i : Nat} {y : Str} {py : Pos} {spos : Pos} (hc : X.calm = true) (hN : X.N.Nodup) (hy : X.N[i]? = some y) (hyl : X.env.scope.names.lookup y = some .local)
    (hsw : swapsWith (.ListComp elt [⟨tg, iter, ifs, 0⟩] scope pos) (some (.Name y py)) spos.line X.env = pure true) (hi : LI X Γ tg iter it) (ok : BlkOk X.N X.env.scope scope own) (hown : own.map (·.2) = t.slots)
    (hg : ∀ (s : Shared) (H : Hp) (C : Addr) (cl : List (Str × Addr)) (fp : List Addr), LG (X.blk s H scope (compEnvC scope cl C X.env) fp) tg t)
    (ht : ∀ (s : Shared) (H : Hp) (C : Addr) (cl : List (Str × Addr)) (fp : List Addr), LTs (X.blk s H scope (compEnvC scope cl C X.env) fp) Γ ifs cx)
    (he : ∀ (s : Shared) (H : Hp) (C : Addr) (cl : List (Str × Addr)) (fp : List Addr), LE (X.blk s H scope (compEnvC scope cl C X.env) fp) Γ elt ex) (hs : ∀ x, foldedSetIterable iter X.env x = pure x := by intro _; rfl) :
    LS X Γ (.Assign [.Name y py] (.ListComp elt [⟨tg, iter, ifs, 0⟩] scope pos) spos) (.asg i (.comp ex t it cx)) :=
  PS.impL (ps_setLc hc hN hy hyl hsw hi ok hg (fun s H C cl fp => (ht s H C cl fp).pts) he hs) fun D σ H hl q => by rw [hown]; exact lcs_of (tasg_of hy hl q)
/-! ### made anew -/
theorem evTup_some {ρ ρ' : Ro} {h : Hd} (E : ev Γ (.tupI it) ρ = some (h, ρ')) : ∃ ds, evI Γ it ρ = some (ds, ρ') ∧ ds.length ≤ line ∧ h = .d (.tuple ds) false := by
  obtain ⟨⟨ds, ρ1⟩, E1, E⟩ := Option.bind_eq_some_iff.mp E
  dsimp only at E
  split at E
  · rename_i hl
    cases E
    exact ⟨ds, E1, hl, rfl⟩
  · cases E
theorem evLst_some {ρ ρ' : Ro} {h : Hd} (E : ev Γ (.lstI it) ρ = some (h, ρ')) : ∃ ds, evI Γ it ρ = some (ds, ρ') ∧ ds.length ≤ line ∧ h = .d (.list ds) true := by
  obtain ⟨⟨ds, ρ1⟩, E1, E⟩ := Option.bind_eq_some_iff.mp E
  dsimp only at E
  split at E
  · rename_i hl
    cases E
    exact ⟨ds, E1, hl, rfl⟩
  · cases E
theorem evI_lst {ρ ρ' : Ro} {ds : List D} (E : evI Γ (.lst x) ρ = some (ds, ρ')) : ∃ h ρ1, ev Γ x ρ = some (h, ρ1) ∧ wlk ρ1 h = some (.list ds, ρ') := by
  obtain ⟨⟨h, ρ1⟩, E1, E⟩ := Option.bind_eq_some_iff.mp E
  obtain ⟨⟨d, ρ2⟩, E2, E⟩ := Option.bind_eq_some_iff.mp E
  dsimp only at E
  split at E
  · cases E; exact ⟨h, ρ1, E1, E2⟩
  · cases E
theorem evI_seq {ρ ρ' : Ro} {ds : List D} (E : evI Γ (.seq x) ρ = some (ds, ρ')) : ∃ h ρ1 d, ev Γ x ρ = some (h, ρ1) ∧ wlk ρ1 h = some (d, ρ') ∧ items? d = some ds := by
  obtain ⟨⟨h, ρ1⟩, E1, E⟩ := Option.bind_eq_some_iff.mp E
  obtain ⟨⟨d, ρ2⟩, E2, E⟩ := Option.bind_eq_some_iff.mp E
  obtain ⟨ds', E3, E⟩ := Option.bind_eq_some_iff.mp E
  obtain ⟨rfl, rfl⟩ := Prod.mk.inj (Option.some.inj E)
  exact ⟨h, ρ1, d, E1, E2, E3⟩
theorem evI_sq {ρ ρ' : Ro} {ds : List D} (E : evI Γ (.sq x) ρ = some (ds, ρ')) : ∃ h ρ1 d, ev Γ x ρ = some (h, ρ1) ∧ wlk ρ1 h = some (d, ρ') ∧ seq? d = some ds := by
  obtain ⟨⟨h, ρ1⟩, E1, E⟩ := Option.bind_eq_some_iff.mp E
  obtain ⟨⟨d, ρ2⟩, E2, E⟩ := Option.bind_eq_some_iff.mp E
  obtain ⟨ds', E3, E⟩ := Option.bind_eq_some_iff.mp E
  obtain ⟨rfl, rfl⟩ := Prod.mk.inj (Option.some.inj E)
  exact ⟨h, ρ1, d, E1, E2, E3⟩
/-- tuple(x) of a list, a tuple -/
theorem le_tupS (hm : X.mg "tuple" = none) (hg : Gl X "tuple") (ha : LE X Γ a x) (he : starEach [a] X.env = (false, eval a X.env) :: starEach [] X.env := by rfl) : LE X Γ (.Call (.Name "tuple" p) [a] [] pos) (.tupI (.sq x)) := by
  refine PE.imp (pe_callTy call_tuple_of hg hm boot_tuple (pa_cons ha pa_nil he) (by decide) (by decide) he rfl) fun σ H Q ⟨G, ρ, h, ρ', E, R, k⟩ => ?_
  obtain ⟨ds, E1, hl, rfl⟩ := evTup_some E
  obtain ⟨h, ρ1, d, E1, E2, E3⟩ := evI_sq E1
  refine one_wlk E1 E2 R fun v H' F S R2 W => ?_
  cases d with
  | tuple ds =>
    cases E3
    have W' := W
    obtain ⟨a, xs, rfl, q, r⟩ := W.tup
    refine ⟨a, xs, rfl, .inr ⟨q H' fun _ _ e _ => e, k _ H' F S ⟨R2, ?_⟩⟩⟩
    rcases W' with W' | ⟨_, _, c, _⟩
    · exact W'
    · exact c.elim
  | list ds =>
    cases E3
    obtain ⟨a, xs, rfl, q, r⟩ := W.lst R2
    exact ⟨a, xs, rfl, .inl ⟨q H' fun _ _ e _ => e, fun l n => k _ _ (F.and_same (same_upd n)) S (R2.newTup n r)⟩⟩
  | _ => cases E3
/-- list(x) of a list, a tuple -/
theorem le_lstS (hm : X.mg "list" = none) (hg : Gl X "list") (ha : LE X Γ a x) (he : starEach [a] X.env = (false, eval a X.env) :: starEach [] X.env := by rfl) : LE X Γ (.Call (.Name "list" p) [a] [] pos) (.lstI (.sq x)) := by
  refine PE.imp (pe_callTy call_list_of hg hm boot_list (pa_cons ha pa_nil he) (by decide) (by decide) he rfl) fun σ H Q ⟨G, ρ, h, ρ', E, R, k⟩ => ?_
  obtain ⟨ds, E1, hl, rfl⟩ := evLst_some E
  obtain ⟨h, ρ1, d, E1, E2, E3⟩ := evI_sq E1
  refine one_wlk E1 E2 R fun v H' F S R2 W => ?_
  cases d with
  | tuple ds =>
    cases E3
    obtain ⟨a, xs, rfl, q, r⟩ := W.tup
    exact ⟨a, xs, rfl, .inr (q H' fun _ _ e _ => e), fun l n => k _ _ (F.and_same (same_upd n)) S (R2.newLst n r)⟩
  | list ds =>
    cases E3
    obtain ⟨a, xs, rfl, q, r⟩ := W.lst R2
    exact ⟨a, xs, rfl, .inl (q H' fun _ _ e _ => e), fun l n => k _ _ (F.and_same (same_upd n)) S (R2.newLst n r)⟩
  | _ => cases E3
/-! ### sorted -/
theorem depth_plain {d : D} {ds : List D} (hs : sortable ds = true) (h : d ∈ ds) : d.depth ≤ 60 ∧ d.plain = true := by
  unfold sortable at hs
  rw [Bool.and_eq_true, Bool.and_eq_true, Bool.and_eq_true] at hs
  exact ⟨by simpa using List.all_eq_true.mp hs.1.1.2 d h, List.all_eq_true.mp hs.1.2 d h⟩
theorem sortable_alike {ds : List D} (hs : sortable ds = true) : PySem.W.AllAlike ds := by
  unfold sortable at hs
  rw [Bool.and_eq_true, Bool.and_eq_true, Bool.and_eq_true] at hs
  intro a ha b hb
  exact List.all_eq_true.mp (List.all_eq_true.mp hs.1.1.1 a ha) b hb
theorem sortable_ok {ds : List D} (hs : sortable ds = true) : PySem.W.Sortable ds := by
  unfold sortable at hs
  rw [Bool.and_eq_true, Bool.and_eq_true, Bool.and_eq_true, Bool.or_eq_true] at hs
  rcases hs.2 with q | q
  · left
    intro d hd
    have z := List.all_eq_true.mp q d hd
    split at z
    · exact ⟨_, _, rfl⟩
    · cases z
  · right
    intro d hd
    have z := List.all_eq_true.mp q d hd
    refine ⟨fun e => ?_, fun xs e => ?_⟩ <;> (subst e; cases z)
/-- the items of a list read as data, each with what it is in the abstract heap -/
theorem each_of {pins : List (Addr × Obj)} {σ' : L2.St} {H : Hp} {s : Shared} {O : Addr → Prop} (I : Inv X pins σ' H s) : ∀ {ds : List D} {xs : List V} {us : List Value}, (∀ d ∈ ds, d.plain = true) → RpL (su X) H O ds xs → Vals xs us →
    PySem.W.EachIs (fun v d => ∃ x, RelV x v ∧ Rp (su X) H O d x) us ds ∧ PySem.W.EachIs (fun v b => ∃ as, Reads s.heap v (id b) as) us ds
  | [], xs, us, _, r, q => by
    cases r
    cases q
    exact ⟨.nil, .nil⟩
  | d :: ds, xs, us, hp, r, q => by
    obtain ⟨x, xr, rfl, r1, r2⟩ := r
    cases q with
    | cons q1 q2 =>
      obtain ⟨i1, i2⟩ := each_of I (fun d hd => hp d (List.mem_cons_of_mem _ hd)) r2 q2
      exact ⟨.cons ⟨x, q1, r1⟩ i1, .cons (Rp.reads I d x _ (hp d (List.mem_cons_self ..)) r1 q1) i2⟩
theorem each_back {U : Su} {H : Hp} {O : Addr → Prop} : ∀ {us : List Value} {ds : List D}, PySem.W.EachIs (fun v d => ∃ x, RelV x v ∧ Rp U H O d x) us ds → ∃ xs, Vals xs us ∧ RpL U H O ds xs
  | _, _, .nil => ⟨[], .nil, rfl⟩
  | _, _, .cons ⟨x, q, r⟩ t => by
    obtain ⟨xs, qs, rs⟩ := each_back t
    exact ⟨x :: xs, .cons q qs, ⟨x, xs, rfl, r, rs⟩⟩
def rSrt (U : Su) : List V → Hp → VK → Prop := fun xs H Q => ∃ a ys ds O, xs = [.ref a] ∧ SqL U.K H a ys ∧ RpL U H O ds ys ∧ sortable ds = true ∧ ds.length ≤ line ∧ ∀ p zs, H p = none → RpL U H O (sortL ds) zs → Q (.ref p) (upd H p (.lst zs))
theorem call_srt (hu : X.A.units + 200 < cLine) : CallR X (.builtin "sorted") (rSrt (su X)) := by
  intro pins s σ H xs us Q I r h
  obtain ⟨a, ys, ds, O, rfl, hq, rl, hs, hz, q⟩ := h
  obtain ⟨u, rfl, rx⟩ := vals1 r
  cases rx
  obtain ⟨its, rv, pl, _⟩ := I.list hq
  obtain ⟨e1, e2⟩ := each_of I (fun d hd => (depth_plain hs hd).2) rl rv
  have hid : ds.map id = ds := List.map_id ds
  refine PySem.W.sorted_data (enc := id) pl.isList e1 e2 (by rw [hid]; exact sortable_alike hs) (by rw [hid]; exact sortable_ok hs) (by rw [← line_eq]; exact hz) (fun b hb => by have := (depth_plain hs hb).1; show X.A.units + 2 + b.depth < cLine; omega) fun out ho eo => ?_
  obtain ⟨zs, vz, rz⟩ := each_back eo
  obtain ⟨c, hc⟩ := PyProof.Rows.sortedAll_at s.heap its out.toArray
  have hlen : zs.length ≤ sizeLine := by
    rw [vz.length, ho, ← line_eq]; exact hz
  exact ⟨.ref _, upd H (s.heap.objs.size + 1) (.lst zs), I.laid (t' := s.toks) (fun _ _ => PyProof.Rows.sortedAll_old) (Nat.le_succ _) ⟨hlen, out, c, vz, hc⟩, rfl, q _ zs (I.hok.fresh (Nat.le_succ _)) rz⟩
theorem le_srtL (hu : X.A.units + 200 < cLine) (hm : X.mg "sorted" = none) (hg : Gl X "sorted") (ha : LE X Γ a x) (he : starEach [a] X.env = (false, eval a X.env) :: starEach [] X.env := by rfl) : LE X Γ (.Call (.Name "sorted" p) [a] [] pos) (.srt (.lst x)) := by
  refine PE.imp (pe_callB (call_srt hu) hg hm (by decide +kernel) (pa_cons ha pa_nil he) (by decide) (by decide) he rfl) fun σ H Q ⟨G, ρ, h, ρ', E, R, k⟩ => ?_
  obtain ⟨⟨ds, ρ1⟩, E1, E⟩ := Option.bind_eq_some_iff.mp E
  obtain ⟨d, E2, E⟩ := Option.bind_eq_some_iff.mp E
  cases E
  unfold srtD at E2
  split at E2
  · rename_i c
    rw [Bool.and_eq_true, decide_eq_true_eq] at c
    cases E2
    obtain ⟨h, ρ1, E1, E3⟩ := evI_lst E1
    refine one_wlk E1 E3 R fun v H' F S R2 W => ?_
    obtain ⟨a, xs, rfl, q, r⟩ := W.lst R2
    exact ⟨a, xs, ds, _, rfl, q H' (fun _ _ e _ => e), r, c.1, c.2, fun p zs n rz => k _ _ (F.and_same (same_upd n)) S (R2.newLst n rz)⟩
  · cases E2
/-! ### sum -/
theorem intsOf_vals {U : Su} {H : Hp} {O : Addr → Prop} : ∀ {ds : List D} {ns : List Int} {xs : List V}, intsOf ds = some ns → RpL U H O ds xs → xs = ns.map V.int
  | [], ns, xs, h, r => by cases h; cases r; rfl
  | d :: ds, ns, xs, h, r => by
    obtain ⟨x, xr, rfl, r1, r2⟩ := r
    cases d with
    | int i =>
      obtain ⟨ms, e1, rfl⟩ := Option.map_eq_some_iff.mp (show (intsOf ds).map (i :: ·) = some ns from h)
      have r1 : x = .int i := r1
      rw [r1, intsOf_vals e1 r2]
      rfl
    | _ => cases h
theorem call_sumL (hc : X.calm = true) : CallR X (.builtin "sum") (r1L (su X) fun x => val1 (sumD x)) := by
  intro pins s σ' H xs us Q I r h
  obtain ⟨x, rfl, G, ρ, σ, a, d, own, e, R, ra, k⟩ := h
  obtain ⟨e1, rfl⟩ := val1_some e
  unfold sumD at e1
  cases a with
  | list ds =>
    obtain ⟨ns, e2, rfl⟩ := Option.map_eq_some_iff.mp (show (intsOf ds).map (fun ns => PyData.int ns.sum) = some d from e1)
    obtain ⟨a, xs, rfl, q, rl⟩ := rv_lst ra
    have hx := intsOf_vals e2 rl
    subst hx
    exact cr_sum hc pins s σ' H _ us Q I r ⟨a, ns, rfl, q, vals_fin R k fun _ _ => rfl⟩
  | _ => cases e1
theorem le_sum (hc : X.calm = true) (hm : X.mg "sum" = none) (hg : Gl X "sum") (ha : LE X Γ a x) (he : starEach [a] X.env = (false, eval a X.env) :: starEach [] X.env := by rfl) : LE X Γ (.Call (.Name "sum" p) [a] [] pos) (.sum x) :=
  le_b1 (f := fun x => val1 (sumD x)) (call_sumL hc) (fun _ => rfl) (by decide +kernel) (by decide) (by decide) hm hg ha he
/-! ### [::-1] -/
theorem le_revL {k : Nat} {p1 p2 p3 : Pos} (ha : LE X Γ a x) : LE X Γ (.Subscript a (.Slice none none (some (.UnaryOp .USub (.Constant (.int 1) k p1) p2)) p3) pos) (.rev x) := by
  refine PE.imp (pe_revL ha) fun σ H Q t => ?_
  obtain ⟨G, ρ, h, ρ', E, R, k⟩ := tEv1 (f := revD) (fun _ => rfl) t
  refine ⟨G, ρ, h, ρ', E, R, fun v H1 F S r => ?_⟩
  obtain ⟨G1, ρ1, σ1, a, d, own, e, R1, ra, k1⟩ := k v H1 F S r
  cases a with
  | list ds =>
    cases e
    obtain ⟨a, xs, rfl, q, rl⟩ := rv_lst ra
    exact ⟨a, xs, rfl, q, fun p n => k1 _ _ (same_upd n) (R1.newLst n rl.reverse)⟩
  | _ => cases e
end
end LT
end
section
set_option linter.all false
set_option maxRecDepth 100000
/-! What a def promises; the def itself. -/
namespace LT
open PySem PySem.Spec PyProof.Rows L2
/-- how one argument stands -/
def ArgOk (U : Su) (H : Hp) (O IO : Addr → Prop) : Md → D → V → Prop
  | .a, d, v => Rp U H O d v
  | .b, d, v => Rp U H O d v ∨ ∃ a, v = .ref a ∧ Ct U H O a d ∧ ¬ IO a
  | .io, d, v => ∃ a, v = .ref a ∧ Ct U H O a d ∧ Mut (H a)
def ArgsOk (U : Su) (H : Hp) (O IO : Addr → Prop) : List Md → List D → List V → Prop
  | [], [], [] => True
  | m :: ms, d :: ds, v :: vs => ArgOk U H O IO m d v ∧ ArgsOk U H O IO ms ds vs
  | _, _, _ => False
/-- the lent ones -/
def ioV : List Md → List V → List V
  | .io :: ms, v :: vs => v :: ioV ms vs
  | _ :: ms, _ :: vs => ioV ms vs
  | _, _ => []
def IosOk (U : Su) (H : Hp) (O : Addr → Prop) : List V → List D → Prop
  | [], [] => True
  | v :: vs, d :: ds => (∃ a, v = .ref a ∧ Ct U H O a d ∧ Mut (H a)) ∧ IosOk U H O vs ds
  | _, _ => False
/-- the result -/
def ResOk (U : Su) (H H' : Hp) (O : Addr → Prop) (d : D) (own : Bool) (v : V) : Prop := match own with
  | false => Rp U H' O d v
  | true => ∃ a, v = .ref a ∧ Ct U H' (fun b => O b ∨ v = .ref b) a d ∧ Mut (H' a) ∧ ¬ O a ∧ H a = none
def ownO (O : Addr → Prop) (own : Bool) (v : V) (b : Addr) : Prop := O b ∨ (own = true ∧ v = .ref b)
def spD (U : Su) (md : List Md) (g : List D → Option (D × Bool × List D)) : Sp := fun vs H Q E => ∃ (O : Addr → Prop) (ds : List D) (d : D) (own : Bool) (ios : List D),
  ArgsOk U H O (fun b => V.ref b ∈ ioV md vs) md ds vs ∧ (∀ b, O b → H b ≠ none) ∧ (∀ b, V.ref b ∈ ioV md vs → O b) ∧ (ioV md vs).Nodup ∧ g ds = some (d, own, ios) ∧
  ∀ v H', (∀ b u, H b = some u → V.ref b ∉ ioV md vs → H' b = some u) → ResOk U H H' O d own v → IosOk U H' (ownO O own v) (ioV md vs) ios → Q v H'
section
variable {U : Su} {H H' : Hp} {O IO : Addr → Prop}
theorem ArgsOk.len : ∀ {ms : List Md} {ds : List D} {vs : List V}, ArgsOk U H O IO ms ds vs → ms.length = vs.length ∧ ds.length = vs.length
  | [], [], [], _ => ⟨rfl, rfl⟩
  | m :: ms, d :: ds, v :: vs, h => by simp [h.2.len.1, h.2.len.2]
  | [], [], _ :: _, h => h.elim
  | [], _ :: _, _, h => by cases ‹List V› <;> exact h.elim
  | _ :: _, [], _, h => by cases ‹List V› <;> exact h.elim
  | _ :: _, _ :: _, [], h => h.elim
theorem ArgsOk.get : ∀ {ms : List Md} {ds : List D} {vs : List V} {i : Nat} {m : Md} {d : D} {v : V}, ArgsOk U H O IO ms ds vs → ms[i]? = some m → ds[i]? = some d → vs[i]? = some v → ArgOk U H O IO m d v
  | _ :: _, _ :: _, _ :: _, 0, m, d, v, h, h1, h2, h3 => by
    simp at h1 h2 h3
    subst h1 h2 h3
    exact h.1
  | _ :: _, _ :: _, _ :: _, i + 1, m, d, v, h, h1, h2, h3 => by
    simp at h1 h2 h3
    exact h.2.get h1 h2 h3
  | [], _, _, _, _, _, _, _, h1, _, _ => by simp at h1
  | _ :: _, [], _, _, _, _, _, _, _, h2, _ => by simp at h2
  | _ :: _, _ :: _, [], _, _, _, _, _, _, _, h3 => by simp at h3
theorem argS_at : ∀ {ms : List Md} {ds : List D} {r : Ro}, argS ms ds = some r → r.length = ms.length ∧ ∀ i s, Ro.at r i = s → s ≠ .un → ∃ m d, ms[i]? = some m ∧ ds[i]? = some d ∧ s = argSl m d
  | [], [], r, e => by
    cases e
    exact ⟨rfl, fun i s h n => by simp [Ro.at] at h; exact absurd h.symm n⟩
  | m :: ms, d :: ds, r, e => by
    obtain ⟨r', e1, rfl⟩ := Option.map_eq_some_iff.mp e
    obtain ⟨l, f⟩ := argS_at e1
    refine ⟨by simp [l], fun i s h n => ?_⟩
    cases i with
    | zero => exact ⟨m, d, rfl, rfl, by simpa [Ro.at] using h.symm⟩
    | succ i => exact f i s (by simpa [Ro.at] using h) n
  | [], _ :: _, _, e => by cases e
  | _ :: _, [], _, e => by cases e
theorem ioV_mem : ∀ {ms : List Md} {vs : List V} {i : Nat} {v : V}, ms[i]? = some Md.io → vs[i]? = some v → v ∈ ioV ms vs
  | m :: ms, w :: vs, 0, v, h1, h2 => by
    simp at h1 h2
    subst h1 h2
    exact List.mem_cons_self ..
  | m :: ms, w :: vs, i + 1, v, h1, h2 => by
    simp at h1 h2
    have q := ioV_mem h1 h2
    cases m with
    | io => exact List.mem_cons_of_mem _ q
    | a => exact q
    | b => exact q
  | [], _, _, _, h1, _ => by simp at h1
  | _ :: _, [], _, _, _, h2 => by simp at h2
theorem ioV_inj : ∀ {ms : List Md} {vs : List V} {i j : Nat} {v : V}, (ioV ms vs).Nodup → ms[i]? = some Md.io → vs[i]? = some v → ms[j]? = some Md.io → vs[j]? = some v → i = j
  | m :: ms, w :: vs, 0, 0, v, _, _, _, _, _ => rfl
  | m :: ms, w :: vs, 0, j + 1, v, n, h1, h2, h3, h4 => by
    simp at h1 h2 h3 h4
    subst h1 h2
    exact absurd (ioV_mem h3 h4) (List.nodup_cons.mp n).1
  | m :: ms, w :: vs, i + 1, 0, v, n, h1, h2, h3, h4 => by
    simp at h1 h2 h3 h4
    subst h3 h4
    exact absurd (ioV_mem h1 h2) (List.nodup_cons.mp n).1
  | m :: ms, w :: vs, i + 1, j + 1, v, n, h1, h2, h3, h4 => by
    simp at h1 h2 h3 h4
    have n' : (ioV ms vs).Nodup := by
      cases m with
      | io => exact (List.nodup_cons.mp n).2
      | a => exact n
      | b => exact n
    rw [ioV_inj n' h1 h2 h3 h4]
  | [], _, _, _, _, _, h1, _, _, _ => by simp at h1
  | _ :: _, [], _, _, _, _, _, h2, _, _ => by simp at h2
theorem start_get {N : List Str} {vs : List V} {i : Nat} {v : V} (h : (L2.start N vs)[i]? = some (some v)) : vs[i]? = some v := by
  unfold L2.start at h
  by_cases hi : i < vs.length
  · rw [List.getElem?_append_left (by simpa using hi), List.getElem?_map] at h
    cases e : vs[i]? with
    | none => rw [e] at h; cases h
    | some w => rw [e] at h; cases h; rfl
  · rw [List.getElem?_append_right (by simpa using hi), List.getElem?_replicate] at h
    split at h <;> cases h
theorem start_of {N : List Str} {vs : List V} {i : Nat} {v : V} (h : vs[i]? = some v) : (L2.start N vs)[i]? = some (some v) := by
  unfold L2.start
  have hi : i < vs.length := (List.getElem?_eq_some_iff.mp h).1
  rw [List.getElem?_append_left (by simpa using hi), List.getElem?_map, h]
  rfl
theorem at_append {r : Ro} {n i : Nat} {s : Sl} (h : Ro.at (r ++ List.replicate n .un) i = s) (nu : s ≠ .un) : Ro.at r i = s := by
  unfold Ro.at at *
  rw [List.getD_eq_getElem?_getD] at *
  by_cases hi : i < r.length
  · rw [List.getElem?_append_left hi] at h; exact h
  · rw [List.getElem?_append_right (by omega), List.getElem?_replicate] at h
    split at h <;> exact absurd h.symm nu
/-- the ghost of a def -/
def ghD (H : Hp) (O : Addr → Prop) (md : List Md) (vs : List V) (hO : ∀ b, V.ref b ∈ ioV md vs → O b) : Gh where
  H0 := H
  O0 := O
  A := fun i a => md[i]? = some Md.io ∧ vs[i]? = some (.ref a)
  IO := fun b => V.ref b ∈ ioV md vs
  B := fun a => H a ≠ none ∧ V.ref a ∉ ioV md vs
  ao := fun i a z => hO a (ioV_mem z.1 z.2)
  ai := fun i a z => ioV_mem z.1 z.2
  bi := fun a z => z
/-- at the entry -/
theorem rel_start {md : List Md} {ds : List D} {vs : List V} {r : Ro} {N : List Str} (hl : md.length ≤ N.length) (A : ArgsOk U H O (fun b => V.ref b ∈ ioV md vs) md ds vs) (hp : ∀ b, O b → H b ≠ none) (hO : ∀ b, V.ref b ∈ ioV md vs → O b) (nd : (ioV md vs).Nodup) (e : argS md ds = some r) :
    Rel U (ghD H O md vs hO) (r ++ List.replicate (N.length - md.length) .un) (L2.start N vs) H := by
  obtain ⟨rl, f⟩ := argS_at e
  obtain ⟨l1, l2⟩ := A.len
  have out : ∀ {i s}, Ro.at (r ++ List.replicate (N.length - md.length) .un) i = s → s ≠ .un → ∃ m d v, md[i]? = some m ∧ ds[i]? = some d ∧ vs[i]? = some v ∧ (L2.start N vs)[i]? = some (some v) ∧ s = argSl m d ∧ ArgOk U H O (fun b => V.ref b ∈ ioV md vs) m d v := fun {i s} h n => by
    obtain ⟨m, d, e1, e2, e3⟩ := f i s (at_append h n) n
    have hi : i < vs.length := by rw [← l1]; exact (List.getElem?_eq_some_iff.mp e1).1
    have ev : vs[i]? = some vs[i] := List.getElem?_eq_getElem hi
    exact ⟨m, d, vs[i], e1, e2, ev, start_of ev, e3, A.get e1 e2 ev⟩
  have muO : ∀ b, Mu (r ++ List.replicate (N.length - md.length) .un) (L2.start N vs) b → O b := fun b ⟨i, d, h, q⟩ => by
    rcases h with h | h
    · obtain ⟨m, d', v, _, _, _, _, e3, _⟩ := out h (fun z => nomatch z)
      cases m <;> cases e3
    · obtain ⟨m, d', v, e1, e2, ev, es, e3, _⟩ := out h (fun z => nomatch z)
      rw [es] at q
      cases q
      cases m with
      | io => exact hO b (ioV_mem e1 ev)
      | a => cases e3
      | b => cases e3
  have mv : Mv H O H (Pr (ghD H O md vs hO) (r ++ List.replicate (N.length - md.length) .un) (L2.start N vs)) := .mono fun b z => z.elim id (muO b)
  have hlen : (L2.start N vs).length = N.length := by
    unfold L2.start
    rw [List.length_append, List.length_map, List.length_replicate]
    omega
  refine ⟨by rw [List.length_append, List.length_replicate, rl, hlen]; omega, fun i d q => ?_, fun i d q => ?_, fun i d q => ?_, fun i d q => ?_, fun i j d e a q1 q2 q3 q4 => ?_, fun b u e _ => e, hp⟩
  · obtain ⟨m, d', v, e1, e2, ev, es, e3, ok⟩ := out q (fun z => nomatch z)
    cases m with
    | a => cases e3; exact ⟨v, es, Rp.move mv _ _ ok⟩
    | b => cases e3
    | io => cases e3
  · obtain ⟨m, d', v, e1, e2, ev, es, e3, ok⟩ := out q (fun z => nomatch z)
    cases m <;> cases e3
  · obtain ⟨m, d', v, e1, e2, ev, es, e3, ok⟩ := out q (fun z => nomatch z)
    cases m with
    | a => cases e3
    | b => cases e3
    | io =>
      cases e3
      obtain ⟨a, rfl, c, mu⟩ := ok
      exact ⟨a, es, c.move mv fun _ z => z, mu, e1, ev⟩
  · obtain ⟨m, d', v, e1, e2, ev, es, e3, ok⟩ := out q (fun z => nomatch z)
    cases m with
    | a => cases e3
    | io => cases e3
    | b =>
      cases e3
      refine ⟨v, es, ?_⟩
      rcases ok with ok | ⟨a, ea, c, n⟩
      · exact .inl (Rp.move mv _ _ ok)
      · refine .inr ⟨a, ea, c.move mv fun _ z => z, ?_, n⟩
        obtain ⟨u, eu⟩ := c.there
        rw [eu]; exact fun z => nomatch z
  · have io1 : md[i]? = some Md.io ∧ vs[i]? = some (.ref a) := by
      rcases q1 with q | q
      · obtain ⟨m, d', v, e1, e2, ev, es, e3, ok⟩ := out q (fun z => nomatch z)
        cases m <;> cases e3
      · obtain ⟨m, d', v, e1, e2, ev, es, e3, ok⟩ := out q (fun z => nomatch z)
        rw [es] at q3
        cases q3
        cases m with
        | io => exact ⟨e1, ev⟩
        | a => cases e3
        | b => cases e3
    have io2 : md[j]? = some Md.io ∧ vs[j]? = some (.ref a) := by
      rcases q2 with q | q
      · obtain ⟨m, d', v, e1, e2, ev, es, e3, ok⟩ := out q (fun z => nomatch z)
        cases m <;> cases e3
      · obtain ⟨m, d', v, e1, e2, ev, es, e3, ok⟩ := out q (fun z => nomatch z)
        rw [es] at q4
        cases q4
        cases m with
        | io => exact ⟨e1, ev⟩
        | a => cases e3
        | b => cases e3
    exact ioV_inj nd io1.1 io1.2 io2.1 io2.2
/-- the lent ones at the end -/
theorem ios_end {G : Gh} {ρ : Ro} {σ : L2.St} {O' : Addr → Prop} (R : Rel U G ρ σ H') (hO' : ∀ b, O' b → Pr G ρ σ b) : ∀ (n : Nat) (ms : List Md) (vs : List V) (ios : List D), (∀ (i : Nat) (a : Addr), ms[i]? = some Md.io → G.A (n + i) a → vs[i]? = some (.ref a)) → (∀ (i : Nat), ms[i]? = some Md.io → ∃ v, vs[i]? = some v) → iosOf n ms ρ = some ios → IosOk U H' O' (ioV ms vs) ios
  | n, [], vs, ios, _, _, e => by
    cases e
    cases vs <;> trivial
  | n, m :: ms, [], ios, hA, hv, e => by
    have none_io : ∀ (n : Nat) (ms : List Md), (∀ (i : Nat), ms[i]? ≠ some Md.io) → iosOf n ms ρ = some [] := by
      intro n ms
      induction ms generalizing n with
      | nil => intro _; rfl
      | cons m ms ih =>
        intro h
        have hm := h 0
        have := ih (n + 1) fun i => by simpa using h (i + 1)
        cases m with
        | io => exact absurd rfl hm
        | a => exact this
        | b => exact this
    have q := none_io n (m :: ms) fun i z => by obtain ⟨v, e⟩ := hv i z; simp at e
    rw [q] at e
    cases e
    cases m <;> trivial
  | n, m :: ms, v :: vs, ios, hA, hv, e => by
    have rec_ : ∀ ios, iosOf (n + 1) ms ρ = some ios → IosOk U H' O' (ioV ms vs) ios := fun ios e => ios_end R hO' (n + 1) ms vs ios (fun i a h1 h2 => by
      have := hA (i + 1) a (by simpa using h1) (by rw [show n + (i + 1) = n + 1 + i by omega]; exact h2)
      simpa using this) (fun i h => by simpa using hv (i + 1) (by simpa using h)) e
    cases m with
    | a => exact rec_ ios e
    | b => exact rec_ ios e
    | io =>
      have e : (match ρ.at n with | .io d => (iosOf (n + 1) ms ρ).map (d :: ·) | _ => none) = some ios := e
      split at e
      · rename_i d q
        obtain ⟨r, e1, rfl⟩ := Option.map_eq_some_iff.mp e
        obtain ⟨a, e2, c, mu, k⟩ := R.io n d q
        have q2 := hA 0 a rfl k
        simp at q2
        exact ⟨⟨a, q2, c.move (.mono hO') fun _ z => z, mu⟩, rec_ r e1⟩
      · cases e
end
/-- the end of a def -/
def EndOk (md : List Md) : Oc → Option (D × Bool × List D)
  | .nx ρ => (iosOf 0 md ρ).map fun ios => (.none, false, ios)
  | .rt d own ρ => (iosOf 0 md ρ).map fun ios => (d, own, ios)
  | _ => none
theorem runDf_some {Γ : Gam} {f : Df} {ds : List D} {p : D × Bool × List D} (h : runDf Γ f ds = some p) : ∃ r o, argS f.md ds = some r ∧ sxs Γ f.body (r ++ List.replicate (f.n - f.md.length) .un) = some o ∧ EndOk f.md o = some p := by
  obtain ⟨r, e1, h⟩ := Option.bind_eq_some_iff.mp h
  obtain ⟨o, e2, h⟩ := Option.bind_eq_some_iff.mp h
  refine ⟨r, o, e1, e2, ?_⟩
  cases o with
  | nx ρ =>
    obtain ⟨ios, e3, h⟩ := Option.bind_eq_some_iff.mp h
    cases h
    show (iosOf 0 f.md ρ).map _ = _
    rw [e3]; rfl
  | rt d own ρ =>
    obtain ⟨ios, e3, h⟩ := Option.bind_eq_some_iff.mp h
    cases h
    show (iosOf 0 f.md ρ).map _ = _
    rw [e3]; rfl
  | bk ρ => cases h
  | ct ρ => cases h
section
variable {P : Program} {w : World} {K : PySem.W.Frag} {mg : Str → Option Value} {base : Heap} {Γ : Gam} {N ps : List Str} {qual : Str} {f : Df}
/-- a body keeps its def's promise -/
theorem body_ok {U : Su} {vs : List V} {H : Hp} {Q : VK} {E : XK} (hn : f.n = N.length) (hl : f.md.length ≤ N.length) (h : spD U f.md (runDf Γ f) vs H Q E) : tSts U Γ f.body { nx := fun _ H' => Q .non H', rt := Q } (L2.start N vs) H := by
  obtain ⟨O, ds, d, own, ios, A, hp, hO, nd, e, k⟩ := h
  obtain ⟨r, o, e1, e2, e3⟩ := runDf_some e
  have R := rel_start (N := N) hl A hp hO nd e1
  rw [hn] at e2
  refine ⟨_, _, o, e2, R, ?_⟩
  have l1 := A.len.1
  have hv : ∀ i, f.md[i]? = some Md.io → ∃ v, vs[i]? = some v := fun i h => by
    have hi : i < vs.length := by rw [← l1]; exact (List.getElem?_eq_some_iff.mp h).1
    exact ⟨vs[i], List.getElem?_eq_getElem hi⟩
  have fin : ∀ {d own ρ' v σ' H'}, (iosOf 0 f.md ρ').map (fun ios => (d, own, ios)) = some (d, own, ios) → HdR U (ghD H O f.md vs hO) ρ' σ' H' (.d d own) v → (∀ b u, H b = some u → V.ref b ∉ ioV f.md vs → H' b = some u) ∧ ResOk U H H' O d own v ∧ IosOk U H' (ownO O own v) (ioV f.md vs) ios := fun {d own ρ' v σ' H'} e r => by
    obtain ⟨ios', e4, e5⟩ := Option.map_eq_some_iff.mp e
    cases e5
    refine ⟨fun b u eb nb => r.relG.kp b u eb nb, ?_, ?_⟩
    · have val := r.val
      cases own with
      | false => exact Rp.move (.mono fun b z => .inl z) _ _ val
      | true =>
        obtain ⟨a, e, c, m, n, k⟩ := val
        refine ⟨a, e, c.move (.mono fun b z => .inl z) fun _ z => z, m, fun z => n (.inl z), ?_⟩
        rcases k with k | k
        · exact k
        · exact absurd (.inl (hO a k)) n
    · refine ios_end r.rel (fun b z => ?_) 0 f.md vs ios (fun i a h1 h2 => ?_) hv e4
      · rcases z with z | ⟨z1, z2⟩
        · exact .inl (gh_O0 _ _ _ _ z)
        · subst z1; exact .inl (.inr z2)
      · rw [gh_A] at h2
        rw [Nat.zero_add] at h2
        exact h2.2
  cases o with
  | nx ρ' =>
    intro σ' H' R'
    have e3' : d = .none ∧ own = false := by
      obtain ⟨ios', e4, e5⟩ := Option.map_eq_some_iff.mp (show (iosOf 0 f.md ρ').map (fun ios => ((.none : D), false, ios)) = _ from e3)
      cases e5; exact ⟨rfl, rfl⟩
    obtain ⟨rfl, rfl⟩ := e3'
    obtain ⟨h1, h2, h3⟩ := fin (v := .non) e3 ⟨R', rfl⟩
    exact k .non H' h1 h2 h3
  | rt d' own' ρ' =>
    intro v σ' H' R'
    have e3' : d' = d ∧ own' = own := by
      obtain ⟨ios', e4, e5⟩ := Option.map_eq_some_iff.mp (show (iosOf 0 f.md ρ').map (fun ios => (d', own', ios)) = _ from e3)
      cases e5; exact ⟨rfl, rfl⟩
    obtain ⟨rfl, rfl⟩ := e3'
    obtain ⟨h1, h2, h3⟩ := fin e3 R'
    exact k v H' h1 h2 h3
  | bk ρ' => cases e3
  | ct ρ' => cases e3
end
end LT
end
section
set_option linter.all false
set_option maxRecDepth 100000
/-! Calls. -/
namespace LT
open PySem PySem.Spec PyProof.Rows L2
def Av (U : Su) (G : Gh) (ρ : Ro) (σ : L2.St) (H : Hp) : Hd → Md → V → Prop
  | .d d _, .a, v => Rp U H (Pr G ρ σ) d v
  | .d d _, .b, v => Rp U H (Pr G ρ σ) d v
  | .s i, .b, v => σ[i]? = some (some v)
  | .s i, .io, v => σ[i]? = some (some v)
  | _, _, _ => False
def ArgV (U : Su) (G : Gh) (ρ : Ro) (σ : L2.St) (H : Hp) : List (Hd × Md) → List V → Prop
  | [], [] => True
  | p :: r, v :: vs => Av U G ρ σ H p.1 p.2 v ∧ ArgV U G ρ σ H r vs
  | _, _ => False
/-- slots and what stands there -/
def Al (σ : L2.St) : List Nat → List V → Prop
  | [], [] => True
  | i :: is, v :: vs => σ[i]? = some (some v) ∧ Al σ is vs
  | _, _ => False
section
variable {U : Su} {G : Gh} {ρ ρ' ρ1 : Ro} {σ : L2.St} {H H' H1 H2 : Hp} {v : V} {d : D} {own : Bool}
theorem Av.move {h : Hd} {m : Md} (F : Fr ρ σ H H') (S : Sb ρ' ρ σ) (a : Av U G ρ σ H h m v) : Av U G ρ' σ H' h m v := by
  cases h with
  | s i => cases m <;> exact a
  | d x o =>
    cases m with
    | a => exact Rp.move (mv_later F S fun _ o => o) _ _ a
    | b => exact Rp.move (mv_later F S fun _ o => o) _ _ a
    | io => exact a
theorem ArgV.al : ∀ {hs : List (Hd × Md)} {vs : List V}, ArgV U G ρ σ H hs vs → Al σ (ioS hs) (ioV (hs.map (·.2)) vs)
  | [], [], _ => trivial
  | (h, m) :: r, v :: vs, a => by
    have ih := ArgV.al a.2
    cases m with
    | io =>
      cases h with
      | s i => exact ⟨a.1, ih⟩
      | d x o => exact a.1.elim
    | a =>
      cases h with
      | s i => exact ih
      | d x o => exact ih
    | b =>
      cases h with
      | s i => exact ih
      | d x o => exact ih
  | [], _ :: _, a => a.elim
  | _ :: _, [], a => a.elim
theorem agv_cons {p : Hd × Md} {r : List (Hd × Md)} {ds : List D} (e : agv ρ (p :: r) = some ds) : ∃ d ds', arg1 ρ p.1 p.2 = some d ∧ agv ρ r = some ds' ∧ ds = d :: ds' := by
  unfold agv at e
  split at e
  · rename_i d ds' h1 h2
    cases e
    exact ⟨d, ds', h1, h2, rfl⟩
  · cases e
theorem agv_io : ∀ {hs : List (Hd × Md)} {ds : List D}, agv ρ hs = some ds → ∀ i ∈ ioS hs, Isow ρ i
  | [], _, _, i, hi => by cases hi
  | (h, m) :: r, ds, e, i, hi => by
    obtain ⟨d, ds', e1, e2, e⟩ := agv_cons e
    have ih := agv_io e2
    cases m with
    | io =>
      cases h with
      | s j =>
        rcases List.mem_cons.mp hi with rfl | hi
        · have e1 : (match ρ.at i with | .ow d | .io d => some d | _ => none) = some d := e1
          split at e1
          · rename_i q; exact ⟨_, .inl q⟩
          · rename_i q; exact ⟨_, .inr q⟩
          · cases e1
        · exact ih i hi
      | d x o => exact ih i hi
    | a =>
      cases h with
      | s j => exact ih i hi
      | d x o => exact ih i hi
    | b =>
      cases h with
      | s j => exact ih i hi
      | d x o => exact ih i hi
theorem nodupN_cons {i : Nat} {r : List Nat} (h : nodupN (i :: r) = true) : i ∉ r ∧ nodupN r = true := by
  unfold nodupN at h
  rw [Bool.and_eq_true, Bool.not_eq_true'] at h
  obtain ⟨h1, h2⟩ := h
  exact ⟨fun z => (by rw [List.contains_iff_mem.mpr z] at h1; cases h1), h2⟩
theorem Al.mem : ∀ {is : List Nat} {vs : List V} {v : V}, Al σ is vs → v ∈ vs → ∃ i ∈ is, σ[i]? = some (some v)
  | i :: is, w :: vs, v, a, hm => by
    rcases List.mem_cons.mp hm with rfl | hm
    · exact ⟨i, List.mem_cons_self .., a.1⟩
    · obtain ⟨j, hj, e⟩ := a.2.mem hm
      exact ⟨j, List.mem_cons_of_mem _ hj, e⟩
  | [], [], _, _, hm => by cases hm
  | [], _ :: _, _, a, _ => a.elim
  | _ :: _, [], _, a, _ => a.elim
theorem Isow.ref (R : Rel U G ρ σ H) {i : Nat} (o : Isow ρ i) (e : σ[i]? = some (some v)) : ∃ a, v = .ref a ∧ Mu ρ σ a := by
  obtain ⟨d, o⟩ := o
  rcases o with q | q
  · obtain ⟨a, e1, _⟩ := R.ow i d q
    rw [e] at e1; cases e1
    exact ⟨a, rfl, i, d, .inl q, e⟩
  · obtain ⟨a, e1, _⟩ := R.io i d q
    rw [e] at e1; cases e1
    exact ⟨a, rfl, i, d, .inr q, e⟩
theorem Isow.inj (R : Rel U G ρ σ H) {i j : Nat} (o : Isow ρ i) (p : Isow ρ j) (e : σ[i]? = some (some v)) (e2 : σ[j]? = some (some v)) : i = j := by
  obtain ⟨a, rfl, _⟩ := o.ref R e
  obtain ⟨d, o⟩ := o
  obtain ⟨d2, p⟩ := p
  exact R.inj i j d d2 a o p e e2
theorem Al.nodup (R : Rel U G ρ σ H) : ∀ {is : List Nat} {vs : List V}, Al σ is vs → nodupN is = true → (∀ i ∈ is, Isow ρ i) → vs.Nodup
  | [], [], _, _, _ => List.nodup_nil
  | i :: is, v :: vs, a, n, o => by
    obtain ⟨n1, n2⟩ := nodupN_cons n
    refine List.nodup_cons.mpr ⟨fun z => ?_, a.2.nodup R n2 fun j hj => o j (List.mem_cons_of_mem _ hj)⟩
    obtain ⟨j, hj, e⟩ := a.2.mem z
    have q := Isow.inj R (o i (List.mem_cons_self ..)) (o j (List.mem_cons_of_mem _ hj)) a.1 e
    rw [q] at n1
    exact n1 hj
  | [], _ :: _, a, _, _ => a.elim
  | _ :: _, [], a, _, _ => a.elim
theorem agv_len : ∀ {hs : List (Hd × Md)} {ds : List D}, agv ρ hs = some ds → ds.length = hs.length
  | [], ds, e => by cases e; rfl
  | (h, m) :: r, ds, e => by
    obtain ⟨d, ds', e1, e2, rfl⟩ := agv_cons e
    simp [agv_len e2]
/-- the arguments stand as the def wants them -/
theorem args_ok (R : Rel U G ρ σ H) {IO : Addr → Prop} {ios : List Nat} (hIO : ∀ b, IO b → ∃ i ∈ ios, Isow ρ i ∧ σ[i]? = some (some (.ref b))) : ∀ {hs : List (Hd × Md)} {ds : List D} {vs : List V}, ArgV U G ρ σ H hs vs → agv ρ hs = some ds → (∀ i ∈ boS hs, i ∉ ios) → ArgsOk U H (Pr G ρ σ) IO (hs.map (·.2)) ds vs
  | [], ds, [], _, e, _ => by cases e; trivial
  | (h, m) :: r, ds, v :: vs, a, e, hb => by
    obtain ⟨d, ds', e1, e2, rfl⟩ := agv_cons e
    have ih := args_ok R hIO a.2 e2 fun i hi => hb i (by
      cases m with
      | io => cases h <;> exact hi
      | a => cases h <;> exact hi
      | b =>
        cases h with
        | s j => exact List.mem_cons_of_mem _ hi
        | d x o => exact hi)
    refine ⟨?_, ih⟩
    have a1 := a.1
    cases m with
    | a =>
      cases h with
      | s i => exact a1.elim
      | d x o => cases e1; exact a1
    | b =>
      cases h with
      | d x o => cases e1; exact .inl a1
      | s i =>
        have a1 : σ[i]? = some (some v) := a1
        have e1 : rd ρ i = some d := e1
        unfold LT.rd at e1
        split at e1
        · rename_i q
          cases e1
          obtain ⟨w, e3, r⟩ := R.va i _ q
          rw [a1] at e3; cases e3
          exact .inl r
        · rename_i q
          cases e1
          obtain ⟨b, e3, c, _⟩ := R.ow i _ q
          rw [a1] at e3; cases e3
          refine .inr ⟨b, rfl, c, fun z => ?_⟩
          obtain ⟨j, hj, oj, ej⟩ := hIO b z
          have := Isow.inj R ⟨_, .inl q⟩ oj a1 ej
          rw [← this] at hj
          exact hb i (List.mem_cons_self ..) hj
        · rename_i q
          cases e1
          obtain ⟨b, e3, c, _⟩ := R.io i _ q
          rw [a1] at e3; cases e3
          refine .inr ⟨b, rfl, c, fun z => ?_⟩
          obtain ⟨j, hj, oj, ej⟩ := hIO b z
          have := Isow.inj R ⟨_, .inr q⟩ oj a1 ej
          rw [← this] at hj
          exact hb i (List.mem_cons_self ..) hj
        · rename_i q
          cases e1
          obtain ⟨w, e3, r⟩ := R.bo i _ q
          rw [a1] at e3; cases e3
          rcases r with r | ⟨b, eb, c, k⟩
          · exact .inl r
          · refine .inr ⟨b, eb, c, fun z => ?_⟩
            obtain ⟨j, hj, oj, ej⟩ := hIO b z
            obtain ⟨a', e', m'⟩ := oj.ref R ej
            cases e'
            exact R.bo_mu k m'
        · cases e1
    | io =>
      cases h with
      | d x o => exact a1.elim
      | s i =>
        have a1 : σ[i]? = some (some v) := a1
        have e1 : (match ρ.at i with | .ow d | .io d => some d | _ => none) = some d := e1
        split at e1
        · rename_i q
          cases e1
          obtain ⟨b, e3, c, m, _⟩ := R.ow i _ q
          rw [a1] at e3; cases e3
          exact ⟨b, rfl, c, m⟩
        · rename_i q
          cases e1
          obtain ⟨b, e3, c, m, _⟩ := R.io i _ q
          rw [a1] at e3; cases e3
          exact ⟨b, rfl, c, m⟩
        · cases e1
  | [], _, _ :: _, a, _, _ => a.elim
  | _ :: _, _, [], a, _, _ => a.elim
/-- what the lent slots are then -/
theorem putIo_at : ∀ {is : List Nat} {ds : List D} {ρ ρ' : Ro}, putIo ρ is ds = some ρ' → nodupN is = true → ρ'.length = ρ.length ∧ ∀ j s, ρ'.at j = s → (j ∉ is ∧ ρ.at j = s) ∨ ∃ (k : Nat) (d c : D), is[k]? = some j ∧ ds[k]? = some d ∧ ((ρ.at j = .ow c ∧ s = .ow d) ∨ (ρ.at j = .io c ∧ s = .io d))
  | [], [], ρ, ρ', e, _ => by cases e; exact ⟨rfl, fun j s h => .inl ⟨by simp, h⟩⟩
  | i :: is, d :: ds, ρ, ρ', e, n => by
    obtain ⟨n1, n2⟩ := nodupN_cons n
    have go : ∀ (s0 : Sl) (c : D), ((ρ.at i = .ow c ∧ s0 = .ow d) ∨ (ρ.at i = .io c ∧ s0 = .io d)) → putIo (ρ.set i s0) is ds = some ρ' → ρ'.length = ρ.length ∧ ∀ j s, ρ'.at j = s → (j ∉ i :: is ∧ ρ.at j = s) ∨ ∃ (k : Nat) (d' c : D), (i :: is)[k]? = some j ∧ (d :: ds)[k]? = some d' ∧ ((ρ.at j = .ow c ∧ s = .ow d') ∨ (ρ.at j = .io c ∧ s = .io d')) := fun s0 c hc e => by
      obtain ⟨l, f⟩ := putIo_at e n2
      refine ⟨by rw [l, List.length_set], fun j s h => ?_⟩
      have hi : i < ρ.length := Ro.at_lt (by rcases hc with ⟨q, _⟩ | ⟨q, _⟩ <;> (rw [q]; exact fun z => nomatch z))
      rcases f j s h with ⟨h1, h2⟩ | ⟨k, d', c', h1, h2, h3⟩
      · rw [Ro.at_set] at h2
        by_cases hij : i = j
        · subst hij
          rw [if_pos ⟨rfl, hi⟩] at h2
          subst h2
          exact .inr ⟨0, d, c, by simp, by simp, hc⟩
        · rw [if_neg (fun z => hij z.1)] at h2
          exact .inl ⟨by simp only [List.mem_cons, not_or]; exact ⟨fun z => hij z.symm, h1⟩, h2⟩
      · have hij : i ≠ j := fun z => n1 (by rw [z]; exact List.mem_of_getElem? h1)
        rw [Ro.at_set, if_neg (fun z => hij z.1)] at h3
        exact .inr ⟨k + 1, d', c', by simpa using h1, by simpa using h2, h3⟩
    have e : (match ρ.at i with | .ow _ => putIo (ρ.set i (.ow d)) is ds | .io _ => putIo (ρ.set i (.io d)) is ds | _ => none) = some ρ' := e
    split at e
    · rename_i c q
      exact go _ c (.inl ⟨q, rfl⟩) e
    · rename_i c q
      exact go _ c (.inr ⟨q, rfl⟩) e
    · cases e
  | [], _ :: _, _, _, e, _ => by cases e
  | _ :: _, [], _, _, e, _ => by cases e
theorem ios_get {O : Addr → Prop} : ∀ {is : List Nat} {ws : List V} {ds : List D} {k j : Nat} {d : D}, Al σ is ws → IosOk U H O ws ds → is[k]? = some j → ds[k]? = some d → ∃ a, σ[j]? = some (some (.ref a)) ∧ V.ref a ∈ ws ∧ Ct U H O a d ∧ Mut (H a)
  | i :: is, w :: ws, d0 :: ds, 0, j, d, a, o, h1, h2 => by
    simp at h1 h2
    subst h1 h2
    obtain ⟨b, rfl, c, m⟩ := o.1
    exact ⟨b, a.1, List.mem_cons_self .., c, m⟩
  | i :: is, w :: ws, d0 :: ds, k + 1, j, d, a, o, h1, h2 => by
    simp at h1 h2
    obtain ⟨b, e, hm, r⟩ := ios_get a.2 o.2 h1 h2
    exact ⟨b, e, List.mem_cons_of_mem _ hm, r⟩
  | [], _, _, _, _, _, _, _, h1, _ => by simp at h1
  | _ :: _, [], _, _, _, _, a, _, _, _ => a.elim
  | _ :: _, _ :: _, [], _, _, _, _, o, _, _ => o.elim
/-- behind a call -/
theorem Rel.after (R : Rel U G ρ1 σ H1) {is : List Nat} {ws : List V} {ios : List D} (nd : nodupN is = true) (al : Al σ is ws) (ow : ∀ i ∈ is, Isow ρ1 i) (hp : putIo ρ1 is ios = some ρ')
    (fr : ∀ b u, H1 b = some u → V.ref b ∉ ws → H2 b = some u) (res : ResOk U H1 H2 (Pr G ρ1 σ) d own v) (io : IosOk U H2 (ownO (Pr G ρ1 σ) own v) ws ios) : HdR U G ρ' σ H2 (.d d own) v ∧ ∀ b, Mu ρ' σ b → Mu ρ1 σ b := by
  obtain ⟨hl, at_⟩ := putIo_at hp nd
  have isow : ∀ {j e}, (ρ'.at j = .ow e ∨ ρ'.at j = .io e) → Isow ρ1 j := fun {j e} z => by
    rcases z with z | z
    · rcases at_ j _ z with ⟨_, q⟩ | ⟨k, d', c, _, _, ⟨q, _⟩ | ⟨q, _⟩⟩
      · exact ⟨_, .inl q⟩
      · exact ⟨_, .inl q⟩
      · exact ⟨_, .inr q⟩
    · rcases at_ j _ z with ⟨_, q⟩ | ⟨k, d', c, _, _, ⟨q, _⟩ | ⟨q, _⟩⟩
      · exact ⟨_, .inr q⟩
      · exact ⟨_, .inl q⟩
      · exact ⟨_, .inr q⟩
  have mu : ∀ b, Mu ρ' σ b → Mu ρ1 σ b := fun b ⟨j, e, z, q⟩ => by
    obtain ⟨d', o⟩ := isow z
    exact ⟨j, d', o, q⟩
  have wsP : ∀ b, V.ref b ∈ ws → Pr G ρ1 σ b := fun b hb => by
    obtain ⟨i, hi, e⟩ := al.mem hb
    obtain ⟨a, ea, m⟩ := (ow i hi).ref R e
    cases ea
    exact .inr m
  have vnew : ∀ b u, H1 b = some u → own = true → v ≠ .ref b := fun b u e o z => by
    subst o
    obtain ⟨a, ea, _, _, _, n⟩ := res
    rw [z] at ea
    cases ea
    rw [n] at e; cases e
  -- what was not protected stays so
  have mv : Mv H1 (Pr G ρ1 σ) H2 (Pr (gh G (.d d own) v) ρ' σ) := fun b u e n => ⟨fr b u e fun z => n (wsP b z), fun z => by
    rcases z with z | z
    · cases own with
      | false => exact n (.inl z)
      | true =>
        rcases z with z | z
        · exact n (.inl z)
        · exact vnew b u e rfl z
    · exact n (.inr (mu b z))⟩
  have mvO : Mv H2 (ownO (Pr G ρ1 σ) own v) H2 (Pr (gh G (.d d own) v) ρ' σ) := .mono fun b z => by
    rcases z with z | z
    · cases own with
      | false => exact .inl (.inl z)
      | true =>
        rcases z with z | z
        · exact .inl (.inl z)
        · exact .inr ⟨rfl, z⟩
    · exact .inl (.inr (mu b z))
  have keep : ∀ {j e a}, (ρ1.at j = .ow e ∨ ρ1.at j = .io e) → j ∉ is → σ[j]? = some (some (.ref a)) → ∀ u, H1 a = some u → H2 a = some u := fun {j e a} o nj ej u eu => fr a u eu fun z => by
    obtain ⟨i, hi, e'⟩ := al.mem z
    have := Isow.inj R ⟨e, o⟩ (ow i hi) ej e'
    rw [this] at nj
    exact nj hi
  have rel : Rel U (gh G (.d d own) v) ρ' σ H2 := by
    refine ⟨by rw [hl]; exact R.len, fun j e q => ?_, fun j e q => ?_, fun j e q => ?_, fun j e q => ?_, fun j k e f a q1 q2 q3 q4 => ?_, fun b u e n => ?_, fun b z => ?_⟩
    · rcases at_ j _ q with ⟨_, q⟩ | ⟨k, d', c, _, _, ⟨_, q⟩ | ⟨_, q⟩⟩
      · obtain ⟨w, e1, r⟩ := R.va j e q
        exact ⟨w, e1, r.move mv⟩
      · cases q
      · cases q
    · rcases at_ j _ q with ⟨nj, q⟩ | ⟨k, d', c, h1, h2, ⟨q, e2⟩ | ⟨_, q⟩⟩
      · obtain ⟨a, e1, r, m, n, k⟩ := R.ow j e q
        obtain ⟨u, eu⟩ := mut_some m
        have ka := keep (.inl q) nj e1
        refine ⟨a, e1, r.move mv ka, by rw [ka u eu, ← eu]; exact m, fun z => ?_, by rw [gh_H0, gh_IO]; exact k⟩
        cases own with
        | false => exact n z
        | true =>
          rcases z with z | z
          · exact n z
          · exact vnew a u eu rfl z
      · cases e2
        obtain ⟨a, e1, _, m0, n, k0⟩ := R.ow j c q
        obtain ⟨a', e3, hm, ct, m⟩ := ios_get al io h1 h2
        rw [e1] at e3
        cases e3
        obtain ⟨u, eu⟩ := mut_some m0
        refine ⟨a, e1, ct.move mvO fun _ z => z, m, fun z => ?_, by rw [gh_H0, gh_IO]; exact k0⟩
        cases own with
        | false => exact n z
        | true =>
          rcases z with z | z
          · exact n z
          · exact vnew a u eu rfl z
      · cases q
    · rcases at_ j _ q with ⟨nj, q⟩ | ⟨k, d', c, h1, h2, ⟨_, q⟩ | ⟨q, e2⟩⟩
      · obtain ⟨a, e1, r, m, n⟩ := R.io j e q
        obtain ⟨u, eu⟩ := mut_some m
        have ka := keep (.inr q) nj e1
        exact ⟨a, e1, r.move mv ka, by rw [ka u eu, ← eu]; exact m, by rw [gh_A]; exact n⟩
      · cases q
      · cases e2
        obtain ⟨a, e1, _, m0, n⟩ := R.io j c q
        obtain ⟨a', e3, hm, ct, m⟩ := ios_get al io h1 h2
        rw [e1] at e3
        cases e3
        exact ⟨a, e1, ct.move mvO fun _ z => z, m, by rw [gh_A]; exact n⟩
    · rcases at_ j _ q with ⟨_, q⟩ | ⟨k, d', c, _, _, ⟨_, q⟩ | ⟨_, q⟩⟩
      · obtain ⟨w, e1, r⟩ := R.bo j e q
        refine ⟨w, e1, ?_⟩
        rcases r with r | ⟨a, ea, r, k⟩
        · exact .inl (r.move mv)
        · refine .inr ⟨a, ea, r.move mv fun u z => fr a u z fun hm => ?_, by rw [gh_B]; exact k⟩
          obtain ⟨i, hi, e'⟩ := al.mem hm
          obtain ⟨a', ea', m'⟩ := (ow i hi).ref R e'
          cases ea'
          exact R.bo_mu k m'
      · cases q
      · cases q
    · exact Isow.inj R (isow q1) (isow q2) q3 q4
    · rw [gh_H0] at e
      rw [gh_IO] at n
      refine fr b u (R.kp b u e n) fun hm => ?_
      obtain ⟨i, hi, e'⟩ := al.mem hm
      obtain ⟨a', ea', m'⟩ := (ow i hi).ref R e'
      cases ea'
      rcases (R.mu_mut m').2 with k | k
      · rw [e] at k; cases k
      · exact n k
    · have old : G.O0 b → H2 b ≠ none := fun z => by
        cases e : H1 b with
        | none => exact absurd e (R.o0 b z)
        | some u =>
          by_cases hm : V.ref b ∈ ws
          · -- it is one of the lent ones
            have : ∀ {ws : List V} {ds : List D}, IosOk U H2 (ownO (Pr G ρ1 σ) own v) ws ds → V.ref b ∈ ws → H2 b ≠ none := by
              intro ws
              induction ws with
              | nil => intro ds _ h; cases h
              | cons w ws ih =>
                intro ds o h
                cases ds with
                | nil => exact o.elim
                | cons d ds =>
                  rcases List.mem_cons.mp h with h | h
                  · obtain ⟨a, ea, _, m⟩ := o.1
                    rw [← h] at ea
                    cases ea
                    obtain ⟨u, e⟩ := mut_some m
                    rw [e]; exact fun z => nomatch z
                  · exact ih o.2 h
            exact this io hm
          · rw [fr b u e hm]; exact fun z => nomatch z
      cases own with
      | false => exact old z
      | true =>
        rcases z with z | z
        · exact old z
        · obtain ⟨a, ea, _, m, _⟩ := res
          rw [z] at ea
          cases ea
          obtain ⟨u, e⟩ := mut_some m
          rw [e]; exact fun z => nomatch z
  refine ⟨⟨rel, ?_⟩, mu⟩
  cases own with
  | false => exact Rp.move (.mono fun b z => z.imp id (mu b)) _ _ res
  | true =>
    obtain ⟨a, ea, c, m, n, k⟩ := res
    refine ⟨a, ea, c.move (.mono fun b z => ?_) fun _ z => z, m, fun z => n (z.imp id (mu a)), R.h0_fresh k⟩
    rcases z with (z | z) | z
    · exact .inl (.inl z)
    · exact .inr z
    · exact .inl (.inr (mu b z))
end
end LT
end
section
set_option linter.all false
set_option maxRecDepth 100000
/-! Calls and defs put together. -/
namespace LT
open PySem PySem.Spec PyProof.Rows L2
def tAg (U : Su) (Γ : Gam) (g : Ag) : TE := fun σ H Q => ∃ G ρ h m ρ', evA Γ g ρ = some ((h, m), ρ') ∧ Rel U G ρ σ H ∧ ∀ v H', Fr ρ σ H H' → Sb ρ' ρ σ → Rel U G ρ' σ H' → Av U G ρ' σ H' h m v → Q v H'
def tAgs (U : Su) (Γ : Gam) (gs : List Ag) : TA := fun σ H Q => ∃ G ρ hs ρ', evAs Γ gs ρ = some (hs, ρ') ∧ Rel U G ρ σ H ∧ ∀ vs H', Fr ρ σ H H' → Sb ρ' ρ σ → Rel U G ρ' σ H' → ArgV U G ρ' σ H' hs vs → Q vs H'
def Ag.md : Ag → Md
  | .a _ => .a
  | .b _ => .b
  | .io _ => .io
theorem evA_md {Γ : Gam} {g : Ag} {ρ ρ' : Ro} {p : Hd × Md} (e : evA Γ g ρ = some (p, ρ')) : p.2 = g.md := by
  cases g with
  | a x =>
    obtain ⟨⟨h, ρ1⟩, E1, E⟩ := Option.bind_eq_some_iff.mp e
    obtain ⟨⟨d, own, ρ2⟩, E2, E⟩ := Option.bind_eq_some_iff.mp E
    cases E; rfl
  | b x =>
    obtain ⟨⟨h, ρ1⟩, E1, E⟩ := Option.bind_eq_some_iff.mp e
    cases E; rfl
  | io i =>
    have e : (if (Ro.own ρ i).isSome then some ((Hd.s i, Md.io), ρ) else none) = some (p, ρ') := e
    split at e
    · cases e; rfl
    · cases e
theorem evAs_md {Γ : Gam} : ∀ {gs : List Ag} {ρ ρ' : Ro} {hs : List (Hd × Md)}, evAs Γ gs ρ = some (hs, ρ') → hs.map (·.2) = gs.map Ag.md
  | [], ρ, ρ', hs, e => by cases e; rfl
  | g :: gs, ρ, ρ', hs, e => by
    obtain ⟨⟨p, ρ1⟩, E1, E⟩ := Option.bind_eq_some_iff.mp e
    obtain ⟨⟨r, ρ2⟩, E2, E⟩ := Option.bind_eq_some_iff.mp E
    cases E
    rw [List.map_cons, List.map_cons, evA_md E1, evAs_md E2]
section
variable {X : Cx} {Γ : Gam} {a e : Expr} {es : List Expr} {x : Ex} {g : Ag} {gs : List Ag} {p pos : Pos}
abbrev LGA (X : Cx) (Γ : Gam) (e : Expr) (g : Ag) : Prop := PE X e (tAg (su X) Γ g)
abbrev LAs (X : Cx) (Γ : Gam) (es : List Expr) (gs : List Ag) : Prop := PA X es (tAgs (su X) Γ gs)
theorem lg_a (h : LE X Γ e x) : LGA X Γ e (.a x) := PE.imp h fun σ H Q ⟨G, ρ, hh, m, ρ', E, R, k⟩ => by
  obtain ⟨⟨h, ρ1⟩, E1, E⟩ := Option.bind_eq_some_iff.mp E
  obtain ⟨⟨d, own, ρ2⟩, E2, E⟩ := Option.bind_eq_some_iff.mp E
  cases E
  exact esc_give E1 E2 R fun v H' F S R2 r => k v H' F S R2 r
theorem lg_b (h : LE X Γ e x) : LGA X Γ e (.b x) := PE.imp h fun σ H Q ⟨G, ρ, hh, m, ρ', E, R, k⟩ => by
  obtain ⟨⟨h, ρ1⟩, E1, E⟩ := Option.bind_eq_some_iff.mp E
  cases E
  refine one E1 R fun v H' F S r => k v H' F S r.relG ?_
  have val := r.val
  cases hh with
  | s i => exact val.1
  | d y o =>
    cases o with
    | false => exact val
    | true =>
      obtain ⟨a, rfl, c, m, n, _⟩ := val
      exact (c.move (.mono fun b z => z.imp .inl id) fun _ z => z).rp n
theorem lg_io {i : Nat} {n : Str} (hN : X.N[i]? = some n) (hv : Vis X.env.scope n) (hd : (n == ("__debug__" : Str)) = false := by decide) (hcd : (n == ("__classdict__" : Str)) = false := by decide)
    : LGA X Γ (.Name n pos) (.io i) := PE.imp (pe_var hN hv hd hcd) fun σ H Q ⟨G, ρ, hh, m, ρ', E, R, k⟩ => by
  have E : (if (Ro.own ρ i).isSome then some ((Hd.s i, Md.io), ρ) else none) = some ((hh, m), ρ') := E
  split at E
  · rename_i o
    cases E
    obtain ⟨⟨c, put⟩, ec⟩ := Option.isSome_iff_exists.mp o
    obtain ⟨a, ea, _⟩ := R.owAt (own_some ec)
    exact ⟨_, ea, k _ H .refl .refl R ea⟩
  · cases E
theorem las_nil : LAs X Γ [] [] := PA.imp pa_nil fun σ H Q ⟨G, ρ, hs, ρ', E, R, k⟩ => by
  cases E
  exact k [] H .refl .refl R trivial
theorem las_cons (ha : LGA X Γ e g) (hr : LAs X Γ es gs) (hs : starEach (e :: es) X.env = (false, eval e X.env) :: starEach es X.env := by rfl) : LAs X Γ (e :: es) (g :: gs) := by
  refine PA.imp (pa_cons ha hr hs) fun σ H Q ⟨G, ρ, hs, ρ', E, R, k⟩ => ?_
  obtain ⟨⟨⟨h, m⟩, ρ1⟩, E1, E⟩ := Option.bind_eq_some_iff.mp E
  obtain ⟨⟨r, ρ2⟩, E2, E⟩ := Option.bind_eq_some_iff.mp E
  cases E
  refine ⟨G, ρ, h, m, ρ1, E1, R, fun v H1 F1 S1 R1 a1 => ⟨G, ρ1, r, _, E2, R1, fun vs H2 F2 S2 R2 a2 => ?_⟩⟩
  exact k _ H2 (F1.trans S1 F2) (S2.trans S1) R2 ⟨a1.move F2 S2, a2⟩
/-- a def that is known by its name -/
def Cal (P : Program) (w : World) (K : PySem.W.Frag) (mg : Str → Option Value) (base : Heap) (k : Nat) (n : Str) (md : List Md) (g : List D → Option (D × Bool × List D)) : Prop :=
  ∃ (f : Addr) (fd : FuncData) (ps : List Str), FnOk P w K mg base CX0 k f fd ps (spD ⟨P, w, K, mg⟩ md g) ∧ mg n = some (.ref f) ∧ PySem.W.keepIn K (.ref f) = true ∧ Binds K fd ps []
theorem callG_some {g : List D → Option (D × Bool × List D)} {hs : List (Hd × Md)} {ρ ρ' : Ro} {h : Hd} (e : callG g hs ρ = some (h, ρ')) : ∃ ds d own ios, nodupN (ioS hs) = true ∧ disj (ioS hs) (boS hs) = true ∧ agv ρ hs = some ds ∧ g ds = some (d, own, ios) ∧ putIo ρ (ioS hs) ios = some ρ' ∧ h = .d d own := by
  unfold callG at e
  split at e
  · rename_i c
    rw [Bool.and_eq_true] at c
    obtain ⟨ds, e1, e⟩ := Option.bind_eq_some_iff.mp e
    obtain ⟨⟨d, own, ios⟩, e2, e⟩ := Option.bind_eq_some_iff.mp e
    obtain ⟨ρ2, e3, e⟩ := Option.bind_eq_some_iff.mp e
    cases e
    exact ⟨ds, d, own, ios, c.1, c.2, e1, e2, e3, rfl⟩
  · cases e
/-- a call's arguments keep what the def asks; behind it the caller's state -/
theorem call_sp {U : Su} {G : Gh} {ρ ρ' : Ro} {σ : L2.St} {H : Hp} {g : List D → Option (D × Bool × List D)} {hs : List (Hd × Md)} {vs : List V} {h : Hd} {Q : VK} {E : XK} {md : List Md} (hmd : hs.map (·.2) = md) (e : callG g hs ρ = some (h, ρ')) (R : Rel U G ρ σ H) (a : ArgV U G ρ σ H hs vs)
    (k : ∀ v H', Fr ρ σ H H' → Sb ρ' ρ σ → HdR U G ρ' σ H' h v → Q v H') : spD U md g vs H Q E := by
  subst hmd
  obtain ⟨ds, d, own, ios, n1, n2, e1, e2, e3, rfl⟩ := callG_some e
  have al := a.al
  have ow := agv_io e1
  have io_of : ∀ b, V.ref b ∈ ioV (hs.map (·.2)) vs → ∃ i ∈ ioS hs, Isow ρ i ∧ σ[i]? = some (some (.ref b)) := fun b hb => by
    obtain ⟨i, hi, e⟩ := al.mem hb
    exact ⟨i, hi, ow i hi, e⟩
  have dj : ∀ i ∈ boS hs, i ∉ ioS hs := fun i hb hi => by
    have q := List.all_eq_true.mp n2 i hi
    rw [List.contains_iff_mem.mpr hb] at q
    cases q
  have mu_of : ∀ b, V.ref b ∈ ioV (hs.map (·.2)) vs → Mu ρ σ b := fun b hb => by
    obtain ⟨i, hi, o, e⟩ := io_of b hb
    obtain ⟨a', ea', m⟩ := o.ref R e
    cases ea'
    exact m
  refine ⟨Pr G ρ σ, ds, d, own, ios, args_ok R io_of a e1 dj, fun b z => R.pr_some z, fun b hb => .inr (mu_of b hb), al.nodup R n1 ow, e2, fun v H' fr res io => ?_⟩
  obtain ⟨r, mu⟩ := R.after n1 al ow e3 fr res io
  exact k v H' (fun b u eb n => fr b u eb fun hm => n (mu_of b hm)) mu r
theorem le_call {k : Nat} {n : Str} {f : String} {md : List Md} (F : Cal X.prog X.w X.K X.mg X.base k n md (Γ f)) (hr : Room k X.A) (hg : Gl X n) (hmd : (g :: gs).map Ag.md = md) (ha : LAs X Γ (e :: es) (g :: gs)) (hdb : (n == ("__debug__" : Str)) = false := by decide)
    (he : starEach (e :: es) X.env = (false, eval e X.env) :: starEach es X.env := by rfl) (hpl : (backTo pos (starEach es X.env)).any (·.1) = false := by rfl) :
    LE X Γ (.Call (.Name n p) (e :: es) [] pos) (.call f (g :: gs)) := by
  obtain ⟨fa, fd, ps, Fn, hm, hk, hb⟩ := F
  refine PE.imp (pe_call Fn hr hg hm hk hb .nil pass0 ha hdb he hpl) fun σ H Q ⟨G, ρ, h, ρ', E, R, k⟩ => ?_
  obtain ⟨⟨hs, ρ1⟩, E1, E⟩ := Option.bind_eq_some_iff.mp E
  refine ⟨G, ρ, hs, ρ1, E1, R, fun vs H1 F1 S1 R1 a1 => ?_⟩
  show spD (su X) md (Γ f) (vs ++ []) H1 Q E0
  rw [List.append_nil]
  exact call_sp (by rw [evAs_md E1]; exact hmd) E R1 a1 fun v H' F S r => k v H' (F1.trans S1 F) (S.trans S1) r
theorem le_call0 {k : Nat} {n : Str} {f : String} (F : Cal X.prog X.w X.K X.mg X.base k n [] (Γ f)) (hr : Room k X.A) (hg : Gl X n) (hdb : (n == ("__debug__" : Str)) = false := by decide) : LE X Γ (.Call (.Name n p) [] [] pos) (.call f []) := by
  obtain ⟨fa, fd, ps, Fn, hm, hk, hb⟩ := F
  refine PE.imp (pe_call0 Fn hr hg hm hk hb .nil pass0 hdb) fun σ H Q ⟨G, ρ, h, ρ', E, R, k⟩ => ?_
  have E : callG (Γ f) [] ρ = some (h, ρ') := E
  exact call_sp (E := E0) (hs := []) (vs := []) rfl E R trivial k
end
/-! ### a def, a program -/
section
variable {P : Program} {w : World} {K : PySem.W.Frag} {mg : Str → Option Value} {base : Heap} {Γ : Gam} {N ps : List Str} {f : Df} {k : Nat} {fa : Addr} {fd : FuncData} {n : Str} {params : Arguments} {body : List Stmt} {scope : Scope}
theorem spD_len {U : Su} {md : List Md} {g : List D → Option (D × Bool × List D)} {vs : List V} {H : Hp} {Q : VK} {E : XK} (hl : md.length = ps.length) (h : spD U md g vs H Q E) : vs.length = ps.length := by
  obtain ⟨O, ds, d, own, ios, A, _⟩ := h
  rw [← hl, A.len.1]
/-- a def keeps its promise if its text is the small one's -/
theorem def_fn (F : FunD K n n params body scope [] [] fa fd) (S : FnScope N ps scope) (hn : f.n = N.length) (hl : f.md.length = ps.length)
    (hbody : ∀ (cdv : Value) (A : Around) (outer : List Env) (s : Shared) (H : Hp) (E : XK), Room k (A.deeper (envOfC n scope s.heap.objs.size fa cdv)) → LSs (cxOf CX0 P w K mg base N n scope fa cdv A outer s H E).nox Γ body f.body) :
    FnOk P w K mg base CX0 (k + 1) fa fd ps (spD ⟨P, w, K, mg⟩ f.md (runDf Γ f)) := by
  have hpl : ps.length ≤ N.length := by have := congrArg List.length S.pre; rw [List.length_take] at this; omega
  refine F.ok S (fun vs H Q E h => spD_len hl h) fun cdv A outer s H vs Q E hr h => ?_
  exact ⟨_, (hbody cdv A outer s H E hr).nox, body_ok hn (by omega) h⟩
theorem Cal.mono {j k : Nat} {md : List Md} {g : List D → Option (D × Bool × List D)} (F : Cal P w K mg base j n md g) (h : j ≤ k) : Cal P w K mg base k n md g :=
  let ⟨f, fd, ps, Fn, r⟩ := F; ⟨f, fd, ps, Fn.mono h, r⟩
/-- the defs by their names -/
abbrev Tab := List (String × Str × Df)
def Cals (P : Program) (w : World) (K : PySem.W.Frag) (mg : Str → Option Value) (base : Heap) (T : Tab) (k : Nat) (Γ : Gam) : Prop := ∀ p ∈ T, Cal P w K mg base k p.2.1 p.2.2.md (Γ p.1)
def dfAt (T : Tab) (x : String) : Df := ((T.find? fun p => p.1 == x).map (·.2.2)).getD ⟨[], 0, []⟩
def keysOk : Tab → Bool
  | [] => true
  | p :: r => (r.all fun q => !(q.1 == p.1)) && keysOk r
theorem dfAt_mem : ∀ {T : Tab} {p : String × Str × Df}, keysOk T = true → p ∈ T → dfAt T p.1 = p.2.2
  | q :: r, p, hk, hp => by
    unfold keysOk at hk
    rw [Bool.and_eq_true] at hk
    unfold dfAt
    rw [List.find?_cons]
    rcases List.mem_cons.mp hp with rfl | hp'
    · simp
    · have h1 := List.all_eq_true.mp hk.1 p hp'
      rw [Bool.not_eq_true', beq_eq_false_iff_ne] at h1
      have h2 : (q.1 == p.1) = false := beq_eq_false_iff_ne.mpr fun z => h1 z.symm
      rw [h2]
      exact dfAt_mem hk.2 hp'
  | [], _, _, hp => by cases hp
def progOf (T : Tab) (order : List String) : List (String × Df) := order.map fun x => (x, dfAt T x)
theorem cals_all {T : Tab} (hk : keysOk T = true) (h0 : ∀ p ∈ T, ∃ (f : Addr) (fd : FuncData) (ps : List Str), mg p.2.1 = some (.ref f) ∧ PySem.W.keepIn K (.ref f) = true ∧ Binds K fd ps [])
    (h : ∀ p ∈ T, ∀ (k : Nat) (Γ : Gam), Cals P w K mg base T k Γ → Cal P w K mg base (k + 1) p.2.1 p.2.2.md (runDf Γ p.2.2)) : ∀ (L : List String), Cals P w K mg base T L.length (gam (progOf T L))
  | [] => fun p hp => by
    obtain ⟨f, fd, ps, h1, h2, h3⟩ := h0 p hp
    have vac : ∀ {vs H Q E}, ¬ spD ⟨P, w, K, mg⟩ p.2.2.md (gam (progOf T []) p.1) vs H Q E := fun ⟨O, ds, d, own, ios, _, _, _, _, e, _⟩ => by cases e
    exact ⟨f, fd, ps, ⟨fun vs H Q E h => (vac h).elim, fun A outer s H args us vs Q E _ _ _ _ h => (vac h).elim⟩, h1, h2, h3⟩
  | x :: L => fun p hp => by
    have ih := cals_all hk h0 h L
    by_cases c : x = p.1
    · have e : gam (progOf T (x :: L)) p.1 = runDf (gam (progOf T L)) p.2.2 := by
        funext args
        show (if x = p.1 then runDf (gam (progOf T L)) (dfAt T x) args else gam (progOf T L) p.1 args) = _
        rw [if_pos c, c, dfAt_mem hk hp]
      rw [e]
      exact h p hp L.length _ ih
    · have e : gam (progOf T (x :: L)) p.1 = gam (progOf T L) p.1 := by
        funext args
        show (if x = p.1 then _ else gam (progOf T L) p.1 args) = _
        rw [if_neg c]
      rw [e]
      exact (ih p hp).mono (Nat.le_succ _)
theorem all_nil {α : Type} {p : α → Prop} : ∀ x ∈ ([] : List α), p x := fun _ h => by cases h
theorem all_cons {α : Type} {p : α → Prop} {a : α} {l : List α} (h : p a) (hr : ∀ x ∈ l, p x) : ∀ x ∈ a :: l, p x := fun x hx => by
  rcases List.mem_cons.mp hx with rfl | hx
  · exact h
  · exact hr x hx
/-- a law that answers True keeps its promise -/
theorem law_sp {U : Su} {g : List D → Option (D × Bool × List D)} {H : Hp} {a : Addr} {ns : List Int} (hS : SqL U.K H a (ns.map V.int)) (hg : ∃ own, g [.list (ns.map PyData.int)] = some (.bool true, own, [])) (E : XK) : spD U [.a] g [.ref a] H (fun v _ => v = .bl true) E := by
  obtain ⟨own, e⟩ := hg
  have rl : ∀ ns : List Int, RpL U H (fun _ => False) (ns.map PyData.int) (ns.map V.int) := fun ns => by
    induction ns with
    | nil => rfl
    | cons n ns ih => exact ⟨_, _, rfl, rfl, ih⟩
  refine ⟨fun _ => False, [.list (ns.map PyData.int)], .bool true, own, [], ⟨?_, trivial⟩, fun b z => z.elim, fun b hb => (by cases hb), List.nodup_nil, e, fun v H' _ res _ => ?_⟩
  · refine ⟨a, _, rfl, ?_, rl ns⟩
    rcases hS with h | ⟨o, its, n, h1, h2, h3, h4, h5, h6⟩
    · exact .inl ⟨h, fun z => z⟩
    · exact .inr ⟨o, its, n, h1, h2, h3, h4, h5, h6⟩
  · cases own with
    | false => exact res
    | true => obtain ⟨a, _, c, _⟩ := res; exact c.elim
end
end LT
end
section
set_option linter.all false
set_option maxRecDepth 100000
set_option maxHeartbeats 0
namespace LT.K89
open PySem PySem.Spec PyProof.Rows L2 LT
def top (i : Nat) : Stmt := PySem.Challenge.pw_leaptover_k89_least_lines_count_up.main.body.getD i (.Pass ⟨0, 0, 0, 0⟩)
/-- slots: value -/
def f_is_number : Df := { md := [.b], n := 1, body := [.ret (.and_ (.isi (.v 0) .int) (.not_ (.isi (.v 0) .bool)))] }
/-- slots: marks place mark -/
def f_first_false : Df := { md := [.b], n := 3, body := [.for_ (.tp [1, 2]) (.enum (.v 0)) [.ifs (.not_ (.v 2)) [.ret (.v 1)] []], .ret (.k .none)] }
/-- slots: pegs marks place one is_right wrong -/
def f_need_line : Df := { md := [.b], n := 6, body := [.ifs (.not_ (.isi (.v 0) .tuple)) [.rai] [], .asg 1 (.lst []), .for_ (.tp [2, 3]) (.enum (.v 0)) [.asg 4 (.and_ (.call "is_number" [.b (.v 3)]) (.chn .le .le (.k (.int 0)) (.v 3) (.k (.int 40)))), .ifs (.and_ (.v 4) (.and_ (.cmp .gt (.v 2) (.k (.int 0))) (.ix (.v 1) (.neg (.k (.int 1)))))) [.asg 4 (.cmp .lt (.ix (.v 0) (.bin .sub (.v 2) (.k (.int 1)))) (.v 3))] [], .app 1 (.v 4)], .asg 5 (.call "first_false" [.b (.v 1)]), .ifs (.cmp .isnot (.v 5) (.k .none)) [.rai] []] }
/-- slots: place one other turn -/
def f_line_worth : Df := { md := [.b], n := 4, body := [.par [1, 2] [(.k (.int 1)), (.k (.int 2))], .for_ (.nm 3) (.rng [(.v 0)]) [.par [1, 2] [(.v 2), (.bin .add (.v 1) (.v 2))]], .ret (.v 1)] }
/-- slots: pegs one -/
def f_line_value : Df := { md := [.b], n := 2, body := [.ex (.call "need_line" [.b (.v 0)]), .ret (.sum (.comp (.call "line_worth" [.b (.v 1)]) (.nm 1) (.seq (.v 0)) (.k (.bool true))))] }
/-- slots: pegs -/
def f_settled : Df := { md := [.b], n := 1, body := [.ret (.call "least_line" [.a (.call "line_value" [.b (.v 0)])])] }
/-- slots: pegs one -/
def f_line_leaps : Df := { md := [.b], n := 2, body := [.ex (.call "need_line" [.b (.v 0)]), .ret (.tupI (.sq (.comp (.v 1) (.nm 1) (.seq (.v 0)) (.and_ (.cmp .isin (.bin .add (.v 1) (.k (.int 1))) (.v 0)) (.cmp .notin (.bin .add (.v 1) (.k (.int 2))) (.v 0))))))] }
/-- slots: pegs -/
def f_many_leaps : Df := { md := [.b], n := 1, body := [.ret (.bin .sub (.len (.v 0)) (.len (.call "settled" [.b (.v 0)])))] }
/-- slots: pegs other -/
def f_do_meet : Df := { md := [.b, .b], n := 2, body := [.ret (.cmp .eq (.call "line_value" [.b (.v 0)]) (.call "line_value" [.b (.v 1)]))] }
/-- slots: value rest found place -/
def f_least_line : Df := { md := [.a], n := 4, body := [.par [1, 2] [(.v 0), (.lst [])], .for_ (.nm 3) (.rng [(.bin .add (.k (.int 40)) (.k (.int 1))), (.neg (.k (.int 1))), (.neg (.k (.int 1)))]) [.ifs (.cmp .le (.call "line_worth" [.b (.v 3)]) (.v 1)) [.asg 1 (.bin .sub (.v 1) (.call "line_worth" [.b (.v 3)])), .app 2 (.v 3)] []], .ret (.tupI (.sq (.rev (.v 2))))] }
/-- slots: row amount found cell -/
def f_law_taken : Df := { md := [.io, .b], n := 4, body := [.ifs (.cmp .gt (.ix (.v 0) (.k (.int 3))) (.k (.int 0))) [.asg 2 (.bin .mod (.int (.ix (.v 0) (.k (.int 3)))) (.v 1)), .setI 0 (.k (.int 3)) (.bin .fdiv (.ix (.v 0) (.k (.int 3))) (.v 1)), .ret (.v 2)] [], .setI 0 (.k (.int 1)) (.bin .add (.ix (.v 0) (.k (.int 1))) (.k (.int 1))), .ifs (.cmp .gt (.ix (.v 0) (.k (.int 1))) (.len (.ix (.v 0) (.k (.int 0))))) [.setI 0 (.k (.int 2)) (.bin .mod (.int (.bin .add (.bin .mul (.ix (.v 0) (.k (.int 2))) (.k (.int 48271))) (.k (.int 11)))) (.k (.int 2147483647))), .ret (.bin .mod (.int (.bin .fdiv (.ix (.v 0) (.k (.int 2))) (.k (.int 7)))) (.v 1))] [], .asg 3 (.ix (.ix (.v 0) (.k (.int 0))) (.bin .sub (.ix (.v 0) (.k (.int 1))) (.k (.int 1)))), .setI 0 (.k (.int 2)) (.bin .mod (.int (.bin .add (.bin .add (.bin .mul (.ix (.v 0) (.k (.int 2))) (.k (.int 48271))) (.v 3)) (.k (.int 11)))) (.k (.int 2147483647))), .ifs (.cmp .ge (.v 3) (.bin .pow (.k (.int 10)) (.k (.int 18)))) [.setI 0 (.k (.int 3)) (.bin .fdiv (.v 3) (.v 1)), .ret (.bin .mod (.int (.v 3)) (.v 1))] [], .ret (.bin .mod (.int (.bin .add (.bin .mul (.bin .mod (.int (.v 3)) (.k (.int 1000003))) (.k (.int 31))) (.bin .fdiv (.ix (.v 0) (.k (.int 2))) (.k (.int 11))))) (.v 1))] }
/-- slots: script row place every_second k turn value told following -/
def f_law : Df := { md := [.a], n := 9, body := [.asg 1 (.lst [(.v 0), (.k (.int 0)), (.k (.int 25289)), (.k (.int 0))]), .for_ (.nm 2) (.rng [(.k (.int 2)), (.k (.int 28))]) [.ifs (.cmp .ne (.call "line_worth" [.b (.v 2)]) (.bin .add (.call "line_worth" [.b (.bin .sub (.v 2) (.k (.int 1)))]) (.call "line_worth" [.b (.bin .sub (.v 2) (.k (.int 2)))]))) [.ret (.k (.bool false))] [], .asg 3 (.tupI (.sq (.comp (.v 4) (.nm 4) (.rng [(.v 2)]) (.cmp .eq (.bin .mod (.bin .sub (.bin .sub (.v 2) (.k (.int 1))) (.v 4)) (.k (.int 2))) (.k (.int 0)))))), .ifs (.or_ (.cmp .ne (.call "line_value" [.b (.v 3)]) (.bin .sub (.call "line_worth" [.b (.v 2)]) (.k (.int 1)))) (.or_ (.cmp .ne (.call "least_line" [.a (.bin .sub (.call "line_worth" [.b (.v 2)]) (.k (.int 1)))]) (.v 3)) (.cmp .ne (.call "least_line" [.a (.call "line_worth" [.b (.v 2)])]) (.tup [(.v 2)])))) [.ret (.k (.bool false))] []], .ifs (.cmp .ne (.tup [(.call "line_worth" [.b (.k (.int 0))]), (.call "line_worth" [.b (.k (.int 1))]), (.call "least_line" [.a (.k (.int 0))]), (.call "least_line" [.a (.k (.int 1))]), (.call "least_line" [.a (.k (.int 2))])]) (.tup [(.k (.int 1)), (.k (.int 2)), (.tup []), (.tup [(.k (.int 0))]), (.tup [(.k (.int 1))])])) [.ret (.k (.bool false))] [], .for_ (.nm 5) (.rng [(.k (.int 8))]) [.asg 6 (.call "_law_taken" [.io 1, .b (.k (.int 100000))]), .asg 7 (.call "least_line" [.a (.v 6)]), .ifs (.or_ (.cmp .ne (.call "line_value" [.b (.v 7)]) (.v 6)) (.or_ (.cmp .ne (.call "settled" [.b (.v 7)]) (.v 7)) (.or_ (.cmp .ne (.call "line_leaps" [.b (.v 7)]) (.tup [])) (.cmp .ne (.call "many_leaps" [.b (.v 7)]) (.k (.int 0)))))) [.ret (.k (.bool false))] [], .ifs (.cmp .ne (.comp (.v 4) (.nm 4) (.rng [(.bin .sub (.len (.v 7)) (.k (.int 1)))]) (.cmp .lt (.bin .sub (.ix (.v 7) (.bin .add (.v 4) (.k (.int 1)))) (.ix (.v 7) (.v 4))) (.k (.int 2)))) (.lst [])) [.ret (.k (.bool false))] [], .asg 8 (.call "least_line" [.a (.bin .add (.v 6) (.k (.int 1)))]), .ifs (.or_ (.call "do_meet" [.b (.v 7), .b (.v 8)]) (.cmp .ne (.call "line_value" [.b (.v 8)]) (.bin .add (.v 6) (.k (.int 1))))) [.ret (.k (.bool false))] [], .ifs (.and_ (.cmp .notin (.k (.int 0)) (.v 7)) (.and_ (.cmp .notin (.k (.int 1)) (.v 7)) (.cmp .ne (.v 8) (.bin .add (.tup [(.k (.int 0))]) (.v 7))))) [.ret (.k (.bool false))] []], .ret (.k (.bool true))] }
def tab : Tab := [("is_number", "is_number", f_is_number), ("first_false", "first_false", f_first_false), ("need_line", "need_line", f_need_line), ("line_worth", "line_worth", f_line_worth), ("line_value", "line_value", f_line_value), ("settled", "settled", f_settled), ("line_leaps", "line_leaps", f_line_leaps), ("many_leaps", "many_leaps", f_many_leaps), ("do_meet", "do_meet", f_do_meet), ("least_line", "least_line", f_least_line), ("_law_taken", "_law_taken", f_law_taken), ("law", "law", f_law)]
def order : List String := ["_law_taken", "do_meet", "many_leaps", "line_leaps", "settled", "least_line", "line_value", "line_worth", "need_line", "first_false", "is_number"]
abbrev s_is_number : Stmt := top 1
theorem sc_is_number : FnScope ["value"] ["value"] (defScope s_is_number) := ⟨rfl, rfl, rfl, by decide +kernel, rfl, by decide +kernel, by decide +kernel⟩
abbrev s_first_false : Stmt := top 2
theorem sc_first_false : FnScope ["marks", "place", "mark"] ["marks"] (defScope s_first_false) := ⟨rfl, rfl, rfl, by decide +kernel, rfl, by decide +kernel, by decide +kernel⟩
abbrev s_need_line : Stmt := top 8
theorem sc_need_line : FnScope ["pegs", "marks", "place", "one", "is_right", "wrong"] ["pegs"] (defScope s_need_line) := ⟨rfl, rfl, rfl, by decide +kernel, rfl, by decide +kernel, by decide +kernel⟩
abbrev s_line_worth : Stmt := top 9
theorem sc_line_worth : FnScope ["place", "one", "other", "turn"] ["place"] (defScope s_line_worth) := ⟨rfl, rfl, rfl, by decide +kernel, rfl, by decide +kernel, by decide +kernel⟩
abbrev s_line_value : Stmt := top 10
theorem sc_line_value : FnScope ["pegs", "one"] ["pegs"] (defScope s_line_value) := ⟨rfl, rfl, rfl, by decide +kernel, rfl, by decide +kernel, by decide +kernel⟩
abbrev s_settled : Stmt := top 11
theorem sc_settled : FnScope ["pegs"] ["pegs"] (defScope s_settled) := ⟨rfl, rfl, rfl, by decide +kernel, rfl, by decide +kernel, by decide +kernel⟩
abbrev s_line_leaps : Stmt := top 12
theorem sc_line_leaps : FnScope ["pegs", "one"] ["pegs"] (defScope s_line_leaps) := ⟨rfl, rfl, rfl, by decide +kernel, rfl, by decide +kernel, by decide +kernel⟩
abbrev s_many_leaps : Stmt := top 13
theorem sc_many_leaps : FnScope ["pegs"] ["pegs"] (defScope s_many_leaps) := ⟨rfl, rfl, rfl, by decide +kernel, rfl, by decide +kernel, by decide +kernel⟩
abbrev s_do_meet : Stmt := top 14
theorem sc_do_meet : FnScope ["pegs", "other"] ["pegs", "other"] (defScope s_do_meet) := ⟨rfl, rfl, rfl, by decide +kernel, rfl, by decide +kernel, by decide +kernel⟩
abbrev s_least_line : Stmt := top 15
theorem sc_least_line : FnScope ["value", "rest", "found", "place"] ["value"] (defScope s_least_line) := ⟨rfl, rfl, rfl, by decide +kernel, rfl, by decide +kernel, by decide +kernel⟩
abbrev s__law_taken : Stmt := top 17
theorem sc__law_taken : FnScope ["row", "amount", "found", "cell"] ["row", "amount"] (defScope s__law_taken) := ⟨rfl, rfl, rfl, by decide +kernel, rfl, by decide +kernel, by decide +kernel⟩
abbrev s_law : Stmt := top 18
theorem sc_law : FnScope ["script", "row", "place", "every_second", "k", "turn", "value", "told", "following"] ["script"] (defScope s_law) := ⟨rfl, rfl, rfl, by decide +kernel, rfl, by decide +kernel, by decide +kernel⟩
section
variable {P : Program} {w : World} {K : PySem.W.Frag} {mg : Str → Option Value} {base : Heap} {fa : Addr} {fd : FuncData} {k : Nat} {Γ : Gam}
theorem fn_is_number (C : Cals P w K mg base tab k Γ) (F : FunD K "is_number" "is_number" (defArgs s_is_number) (defBody s_is_number) (defScope s_is_number) [] [] fa fd) (m_bool : mg "bool" = none) (m_int : mg "int" = none) (m_isinstance : mg "isinstance" = none)  : FnOk P w K mg base CX0 (k + 1) fa fd ["value"] (spD ⟨P, w, K, mg⟩ (f_is_number).md (runDf Γ f_is_number)) := by
  have N_ok := (sc_is_number).nd
  refine def_fn F sc_is_number (by rfl) (by rfl) fun cdv A outer s H E hr => ?_
  have hu : (A.deeper (envOfC "is_number" (defScope s_is_number) s.heap.objs.size fa cdv)).units + 200 < cLine := by have := hr.un; omega
  exact (lss_cons (ls_ret (le_and (le_isi boot_int (by decide) (by decide) m_isinstance (by rfl) m_int (by rfl) (le_var (by rfl) (by first | exact Or.inl rfl | exact Or.inr (Or.inl rfl) | exact Or.inr (Or.inr rfl)))) (le_one (le_not (le_isi boot_bool (by decide) (by decide) m_isinstance (by rfl) m_bool (by rfl) (le_var (by rfl) (by first | exact Or.inl rfl | exact Or.inr (Or.inl rfl) | exact Or.inr (Or.inr rfl))))))))
  lss_nil)
theorem bd_is_number (F : FunD K "is_number" "is_number" (defArgs s_is_number) (defBody s_is_number) (defScope s_is_number) [] [] fa fd) : Binds K fd ["value"] [] := F.bindsN fun _ _ _ _ _ _ us hl => match us, hl with | [_], _ => rfl
theorem fn_first_false (C : Cals P w K mg base tab k Γ) (F : FunD K "first_false" "first_false" (defArgs s_first_false) (defBody s_first_false) (defScope s_first_false) [] [] fa fd) (m_enumerate : mg "enumerate" = none)  : FnOk P w K mg base CX0 (k + 1) fa fd ["marks"] (spD ⟨P, w, K, mg⟩ (f_first_false).md (runDf Γ f_first_false)) := by
  have N_ok := (sc_first_false).nd
  refine def_fn F sc_first_false (by rfl) (by rfl) fun cdv A outer s H E hr => ?_
  have hu : (A.deeper (envOfC "first_false" (defScope s_first_false) s.heap.objs.size fa cdv)).units + 200 < cLine := by have := hr.un; omega
  exact (lss_cons (ls_for PassesOwn.never rfl (li_enum m_enumerate (by rfl) (le_var (by rfl) (by first | exact Or.inl rfl | exact Or.inr (Or.inl rfl) | exact Or.inr (Or.inr rfl)))) (lg_tp rfl (lgs_cons N_ok (by rfl) (by first | exact .inl rfl | exact .inr rfl) (lgs_cons N_ok (by rfl) (by first | exact .inl rfl | exact .inr rfl) lgs_nil)))
  (lss_cons (ls_if (lt_not (lt_val (le_var (by rfl) (by first | exact Or.inl rfl | exact Or.inr (Or.inl rfl) | exact Or.inr (Or.inr rfl)))))
  (lss_cons (ls_ret (le_var (by rfl) (by first | exact Or.inl rfl | exact Or.inr (Or.inl rfl) | exact Or.inr (Or.inr rfl))))
  lss_nil)
  lss_nil)
  lss_nil))
  (lss_cons (ls_ret le_non)
  lss_nil))
theorem bd_first_false (F : FunD K "first_false" "first_false" (defArgs s_first_false) (defBody s_first_false) (defScope s_first_false) [] [] fa fd) : Binds K fd ["marks"] [] := F.bindsN fun _ _ _ _ _ _ us hl => match us, hl with | [_], _ => rfl
theorem fn_need_line (C : Cals P w K mg base tab k Γ) (F : FunD K "need_line" "need_line" (defArgs s_need_line) (defBody s_need_line) (defScope s_need_line) [] [] fa fd) (m_enumerate : mg "enumerate" = none) (m_isinstance : mg "isinstance" = none) (m_tuple : mg "tuple" = none) {t_MOST_LINE : Tok} (g_MOST_LINE : mg "MOST_LINE" = some (.int 40 t_MOST_LINE)) : FnOk P w K mg base CX0 (k + 1) fa fd ["pegs"] (spD ⟨P, w, K, mg⟩ (f_need_line).md (runDf Γ f_need_line)) := by
  have c_first_false := C _ (List.mem_of_getElem? (i := 1) rfl)
  have c_is_number := C _ (List.mem_of_getElem? (i := 0) rfl)
  have N_ok := (sc_need_line).nd
  refine def_fn F sc_need_line (by rfl) (by rfl) fun cdv A outer s H E hr => ?_
  have hu : (A.deeper (envOfC "need_line" (defScope s_need_line) s.heap.objs.size fa cdv)).units + 200 < cLine := by have := hr.un; omega
  exact (lss_cons (ls_if (lt_not (lt_val (le_isi boot_tuple (by decide) (by decide) m_isinstance (by rfl) m_tuple (by rfl) (le_var (by rfl) (by first | exact Or.inl rfl | exact Or.inr (Or.inl rfl) | exact Or.inr (Or.inr rfl))))))
  (lss_cons ls_rai
  lss_nil)
  lss_nil)
  (lss_cons (ls_asg N_ok (by rfl) (by first | exact .inl rfl | exact .inr rfl) (le_lst (by decide) la_nil))
  (lss_cons (ls_for PassesOwn.never rfl (li_enum m_enumerate (by rfl) (le_var (by rfl) (by first | exact Or.inl rfl | exact Or.inr (Or.inl rfl) | exact Or.inr (Or.inr rfl)))) (lg_tp rfl (lgs_cons N_ok (by rfl) (by first | exact .inl rfl | exact .inr rfl) (lgs_cons N_ok (by rfl) (by first | exact .inl rfl | exact .inr rfl) lgs_nil)))
  (lss_cons (ls_asg N_ok (by rfl) (by first | exact .inl rfl | exact .inr rfl) (le_and (le_call c_is_number hr (by rfl) (by rfl) (las_cons (lg_b (le_var (by rfl) (by first | exact Or.inl rfl | exact Or.inr (Or.inl rfl) | exact Or.inr (Or.inr rfl)))) las_nil)) (le_one (le_chn (c1 := .le) (c2 := .le) hu le_int (le_var (by rfl) (by first | exact Or.inl rfl | exact Or.inr (Or.inl rfl) | exact Or.inr (Or.inr rfl))) (le_globI g_MOST_LINE (by rfl)) (by with_unfolding_all rfl)))))
  (lss_cons (ls_if ((lw_and (lt_val (le_var (by rfl) (by first | exact Or.inl rfl | exact Or.inr (Or.inl rfl) | exact Or.inr (Or.inr rfl)))) (lw_and (lt_cmp (o := .gt) hu (le_var (by rfl) (by first | exact Or.inl rfl | exact Or.inr (Or.inl rfl) | exact Or.inr (Or.inr rfl))) le_int (by first | rfl | exact nomark _ | with_unfolding_all rfl)) (lw_and1 (lt_val (le_ix hu (fun _ _ => rfl) (le_var (by rfl) (by first | exact Or.inl rfl | exact Or.inr (Or.inl rfl) | exact Or.inr (Or.inr rfl))) (le_neg le_int))))))).pt
  (lss_cons (ls_asg N_ok (by rfl) (by first | exact .inl rfl | exact .inr rfl) (le_cmp (o := .lt) hu (le_ix hu (fun _ _ => rfl) (le_var (by rfl) (by first | exact Or.inl rfl | exact Or.inr (Or.inl rfl) | exact Or.inr (Or.inr rfl))) (le_bin (o := .sub) (le_var (by rfl) (by first | exact Or.inl rfl | exact Or.inr (Or.inl rfl) | exact Or.inr (Or.inr rfl))) le_int)) (le_var (by rfl) (by first | exact Or.inl rfl | exact Or.inr (Or.inl rfl) | exact Or.inr (Or.inr rfl))) (by first | rfl | exact nomark _ | with_unfolding_all rfl)))
  lss_nil)
  lss_nil)
  (lss_cons (ls_app (by rfl) (by first | exact Or.inl rfl | exact Or.inr (Or.inl rfl) | exact Or.inr (Or.inr rfl)) (le_var (by rfl) (by first | exact Or.inl rfl | exact Or.inr (Or.inl rfl) | exact Or.inr (Or.inr rfl))))
  lss_nil))))
  (lss_cons (ls_asg N_ok (by rfl) (by first | exact .inl rfl | exact .inr rfl) (le_call c_first_false hr (by rfl) (by rfl) (las_cons (lg_b (le_var (by rfl) (by first | exact Or.inl rfl | exact Or.inr (Or.inl rfl) | exact Or.inr (Or.inr rfl)))) las_nil)))
  (lss_cons (ls_if (lt_cmp (o := .isnot) hu (le_var (by rfl) (by first | exact Or.inl rfl | exact Or.inr (Or.inl rfl) | exact Or.inr (Or.inr rfl))) le_non (by first | rfl | exact nomark _ | with_unfolding_all rfl))
  (lss_cons ls_rai
  lss_nil)
  lss_nil)
  lss_nil)))))
theorem bd_need_line (F : FunD K "need_line" "need_line" (defArgs s_need_line) (defBody s_need_line) (defScope s_need_line) [] [] fa fd) : Binds K fd ["pegs"] [] := F.bindsN fun _ _ _ _ _ _ us hl => match us, hl with | [_], _ => rfl
theorem fn_line_worth (C : Cals P w K mg base tab k Γ) (F : FunD K "line_worth" "line_worth" (defArgs s_line_worth) (defBody s_line_worth) (defScope s_line_worth) [] [] fa fd) (m_range : mg "range" = none)  : FnOk P w K mg base CX0 (k + 1) fa fd ["place"] (spD ⟨P, w, K, mg⟩ (f_line_worth).md (runDf Γ f_line_worth)) := by
  have N_ok := (sc_line_worth).nd
  refine def_fn F sc_line_worth (by rfl) (by rfl) fun cdv A outer s H E hr => ?_
  have hu : (A.deeper (envOfC "line_worth" (defScope s_line_worth) s.heap.objs.size fa cdv)).units + 200 < cLine := by have := hr.un; omega
  exact (lss_cons (ls_par2T rfl N_ok (by rfl) (by rfl) (by decide) (by first | exact .inl rfl | exact .inr rfl) (by first | exact .inl rfl | exact .inr rfl) le_int le_int (by first | exact .inl rfl | exact .inr rfl) (by first | exact .inl rfl | exact .inr rfl))
  (lss_cons (ls_for PassesOwn.never rfl (li_rng1 m_range (by rfl) (la_cons (le_var (by rfl) (by first | exact Or.inl rfl | exact Or.inr (Or.inl rfl) | exact Or.inr (Or.inr rfl))) la_nil)) (lg_nm N_ok (by rfl) (by first | exact .inl rfl | exact .inr rfl))
  (lss_cons (ls_par2 rfl N_ok (by rfl) (by rfl) (by decide) (by rfl) (by rfl) (le_var (by rfl) (by first | exact Or.inl rfl | exact Or.inr (Or.inl rfl) | exact Or.inr (Or.inr rfl))) (le_bin (o := .add) (le_var (by rfl) (by first | exact Or.inl rfl | exact Or.inr (Or.inl rfl) | exact Or.inr (Or.inr rfl))) (le_var (by rfl) (by first | exact Or.inl rfl | exact Or.inr (Or.inl rfl) | exact Or.inr (Or.inr rfl)))))
  lss_nil))
  (lss_cons (ls_ret (le_var (by rfl) (by first | exact Or.inl rfl | exact Or.inr (Or.inl rfl) | exact Or.inr (Or.inr rfl))))
  lss_nil)))
theorem bd_line_worth (F : FunD K "line_worth" "line_worth" (defArgs s_line_worth) (defBody s_line_worth) (defScope s_line_worth) [] [] fa fd) : Binds K fd ["place"] [] := F.bindsN fun _ _ _ _ _ _ us hl => match us, hl with | [_], _ => rfl
theorem fn_line_value (C : Cals P w K mg base tab k Γ) (F : FunD K "line_value" "line_value" (defArgs s_line_value) (defBody s_line_value) (defScope s_line_value) [] [] fa fd) (m_sum : mg "sum" = none)  : FnOk P w K mg base CX0 (k + 1) fa fd ["pegs"] (spD ⟨P, w, K, mg⟩ (f_line_value).md (runDf Γ f_line_value)) := by
  have c_line_worth := C _ (List.mem_of_getElem? (i := 3) rfl)
  have c_need_line := C _ (List.mem_of_getElem? (i := 2) rfl)
  have N_ok := (sc_line_value).nd
  refine def_fn F sc_line_value (by rfl) (by rfl) fun cdv A outer s H E hr => ?_
  have hu : (A.deeper (envOfC "line_value" (defScope s_line_value) s.heap.objs.size fa cdv)).units + 200 < cLine := by have := hr.un; omega
  exact (lss_cons (ls_ex (le_call c_need_line hr (by rfl) (by rfl) (las_cons (lg_b (le_var (by rfl) (by first | exact Or.inl rfl | exact Or.inr (Or.inl rfl) | exact Or.inr (Or.inr rfl)))) las_nil)))
  (lss_cons (ls_ret (le_sum rfl m_sum (by rfl) (le_comp rfl N_ok (li_seq (le_var (by rfl) (by first | exact Or.inl rfl | exact Or.inr (Or.inl rfl) | exact Or.inr (Or.inr rfl)))) (blkOk_by (own := [("one", 1)]) (by kernel_rfl)) (by rfl) (fun _ _ _ _ _ => (lg_nm N_ok (by rfl) (by first | exact .inl rfl | exact .inr rfl))) (fun _ _ _ _ _ => lts_nil) (fun _ _ _ _ _ => (le_call c_line_worth hr (by rfl) (by rfl) (las_cons (lg_b (le_var (by rfl) (by first | exact Or.inl rfl | exact Or.inr (Or.inl rfl) | exact Or.inr (Or.inr rfl)))) las_nil))))))
  lss_nil))
theorem bd_line_value (F : FunD K "line_value" "line_value" (defArgs s_line_value) (defBody s_line_value) (defScope s_line_value) [] [] fa fd) : Binds K fd ["pegs"] [] := F.bindsN fun _ _ _ _ _ _ us hl => match us, hl with | [_], _ => rfl
theorem fn_settled (C : Cals P w K mg base tab k Γ) (F : FunD K "settled" "settled" (defArgs s_settled) (defBody s_settled) (defScope s_settled) [] [] fa fd)   : FnOk P w K mg base CX0 (k + 1) fa fd ["pegs"] (spD ⟨P, w, K, mg⟩ (f_settled).md (runDf Γ f_settled)) := by
  have c_least_line := C _ (List.mem_of_getElem? (i := 9) rfl)
  have c_line_value := C _ (List.mem_of_getElem? (i := 4) rfl)
  have N_ok := (sc_settled).nd
  refine def_fn F sc_settled (by rfl) (by rfl) fun cdv A outer s H E hr => ?_
  have hu : (A.deeper (envOfC "settled" (defScope s_settled) s.heap.objs.size fa cdv)).units + 200 < cLine := by have := hr.un; omega
  exact (lss_cons (ls_ret (le_call c_least_line hr (by rfl) (by rfl) (las_cons (lg_a (le_call c_line_value hr (by rfl) (by rfl) (las_cons (lg_b (le_var (by rfl) (by first | exact Or.inl rfl | exact Or.inr (Or.inl rfl) | exact Or.inr (Or.inr rfl)))) las_nil))) las_nil)))
  lss_nil)
theorem bd_settled (F : FunD K "settled" "settled" (defArgs s_settled) (defBody s_settled) (defScope s_settled) [] [] fa fd) : Binds K fd ["pegs"] [] := F.bindsN fun _ _ _ _ _ _ us hl => match us, hl with | [_], _ => rfl
theorem fn_line_leaps (C : Cals P w K mg base tab k Γ) (F : FunD K "line_leaps" "line_leaps" (defArgs s_line_leaps) (defBody s_line_leaps) (defScope s_line_leaps) [] [] fa fd) (m_tuple : mg "tuple" = none)  : FnOk P w K mg base CX0 (k + 1) fa fd ["pegs"] (spD ⟨P, w, K, mg⟩ (f_line_leaps).md (runDf Γ f_line_leaps)) := by
  have c_need_line := C _ (List.mem_of_getElem? (i := 2) rfl)
  have N_ok := (sc_line_leaps).nd
  refine def_fn F sc_line_leaps (by rfl) (by rfl) fun cdv A outer s H E hr => ?_
  have hu : (A.deeper (envOfC "line_leaps" (defScope s_line_leaps) s.heap.objs.size fa cdv)).units + 200 < cLine := by have := hr.un; omega
  exact (lss_cons (ls_ex (le_call c_need_line hr (by rfl) (by rfl) (las_cons (lg_b (le_var (by rfl) (by first | exact Or.inl rfl | exact Or.inr (Or.inl rfl) | exact Or.inr (Or.inr rfl)))) las_nil)))
  (lss_cons (ls_ret (le_tupS m_tuple (by rfl) (le_comp rfl N_ok (li_seq (le_var (by rfl) (by first | exact Or.inl rfl | exact Or.inr (Or.inl rfl) | exact Or.inr (Or.inr rfl)))) (blkOk_by (own := [("one", 1)]) (by kernel_rfl)) (by rfl) (fun _ _ _ _ _ => (lg_nm N_ok (by rfl) (by first | exact .inl rfl | exact .inr rfl))) (fun _ _ _ _ _ => (lts_one ((lw_and (lt_cmp (o := .isin) hu (le_bin (o := .add) (le_var (by rfl) (by first | exact Or.inl rfl | exact Or.inr (Or.inl rfl) | exact Or.inr (Or.inr rfl))) le_int) (le_var (by rfl) (by first | exact Or.inl rfl | exact Or.inr (Or.inl rfl) | exact Or.inr (Or.inr rfl))) (by first | rfl | exact nomark _ | with_unfolding_all rfl)) (lw_and1 (lt_cmp (o := .notin) hu (le_bin (o := .add) (le_var (by rfl) (by first | exact Or.inl rfl | exact Or.inr (Or.inl rfl) | exact Or.inr (Or.inr rfl))) le_int) (le_var (by rfl) (by first | exact Or.inl rfl | exact Or.inr (Or.inl rfl) | exact Or.inr (Or.inr rfl))) (by first | rfl | exact nomark _ | with_unfolding_all rfl))))).pt)) (fun _ _ _ _ _ => (le_var (by rfl) (by first | exact Or.inl rfl | exact Or.inr (Or.inl rfl) | exact Or.inr (Or.inr rfl)))))))
  lss_nil))
theorem bd_line_leaps (F : FunD K "line_leaps" "line_leaps" (defArgs s_line_leaps) (defBody s_line_leaps) (defScope s_line_leaps) [] [] fa fd) : Binds K fd ["pegs"] [] := F.bindsN fun _ _ _ _ _ _ us hl => match us, hl with | [_], _ => rfl
theorem fn_many_leaps (C : Cals P w K mg base tab k Γ) (F : FunD K "many_leaps" "many_leaps" (defArgs s_many_leaps) (defBody s_many_leaps) (defScope s_many_leaps) [] [] fa fd) (m_len : mg "len" = none)  : FnOk P w K mg base CX0 (k + 1) fa fd ["pegs"] (spD ⟨P, w, K, mg⟩ (f_many_leaps).md (runDf Γ f_many_leaps)) := by
  have c_settled := C _ (List.mem_of_getElem? (i := 5) rfl)
  have N_ok := (sc_many_leaps).nd
  refine def_fn F sc_many_leaps (by rfl) (by rfl) fun cdv A outer s H E hr => ?_
  have hu : (A.deeper (envOfC "many_leaps" (defScope s_many_leaps) s.heap.objs.size fa cdv)).units + 200 < cLine := by have := hr.un; omega
  exact (lss_cons (ls_ret (le_bin (o := .sub) (le_len m_len (by rfl) (le_var (by rfl) (by first | exact Or.inl rfl | exact Or.inr (Or.inl rfl) | exact Or.inr (Or.inr rfl)))) (le_len m_len (by rfl) (le_call c_settled hr (by rfl) (by rfl) (las_cons (lg_b (le_var (by rfl) (by first | exact Or.inl rfl | exact Or.inr (Or.inl rfl) | exact Or.inr (Or.inr rfl)))) las_nil)))))
  lss_nil)
theorem bd_many_leaps (F : FunD K "many_leaps" "many_leaps" (defArgs s_many_leaps) (defBody s_many_leaps) (defScope s_many_leaps) [] [] fa fd) : Binds K fd ["pegs"] [] := F.bindsN fun _ _ _ _ _ _ us hl => match us, hl with | [_], _ => rfl
theorem fn_do_meet (C : Cals P w K mg base tab k Γ) (F : FunD K "do_meet" "do_meet" (defArgs s_do_meet) (defBody s_do_meet) (defScope s_do_meet) [] [] fa fd)   : FnOk P w K mg base CX0 (k + 1) fa fd ["pegs", "other"] (spD ⟨P, w, K, mg⟩ (f_do_meet).md (runDf Γ f_do_meet)) := by
  have c_line_value := C _ (List.mem_of_getElem? (i := 4) rfl)
  have N_ok := (sc_do_meet).nd
  refine def_fn F sc_do_meet (by rfl) (by rfl) fun cdv A outer s H E hr => ?_
  have hu : (A.deeper (envOfC "do_meet" (defScope s_do_meet) s.heap.objs.size fa cdv)).units + 200 < cLine := by have := hr.un; omega
  exact (lss_cons (ls_ret (le_cmp (o := .eq) hu (le_call c_line_value hr (by rfl) (by rfl) (las_cons (lg_b (le_var (by rfl) (by first | exact Or.inl rfl | exact Or.inr (Or.inl rfl) | exact Or.inr (Or.inr rfl)))) las_nil)) (le_call c_line_value hr (by rfl) (by rfl) (las_cons (lg_b (le_var (by rfl) (by first | exact Or.inl rfl | exact Or.inr (Or.inl rfl) | exact Or.inr (Or.inr rfl)))) las_nil)) (by first | rfl | exact nomark _ | with_unfolding_all rfl)))
  lss_nil)
theorem bd_do_meet (F : FunD K "do_meet" "do_meet" (defArgs s_do_meet) (defBody s_do_meet) (defScope s_do_meet) [] [] fa fd) : Binds K fd ["pegs", "other"] [] := F.bindsN fun _ _ _ _ _ _ us hl => match us, hl with | [_, _], _ => rfl
theorem fn_least_line (C : Cals P w K mg base tab k Γ) (F : FunD K "least_line" "least_line" (defArgs s_least_line) (defBody s_least_line) (defScope s_least_line) [] [] fa fd) (m_range : mg "range" = none) (m_tuple : mg "tuple" = none) {t_MOST_LINE : Tok} (g_MOST_LINE : mg "MOST_LINE" = some (.int 40 t_MOST_LINE)) : FnOk P w K mg base CX0 (k + 1) fa fd ["value"] (spD ⟨P, w, K, mg⟩ (f_least_line).md (runDf Γ f_least_line)) := by
  have c_line_worth := C _ (List.mem_of_getElem? (i := 3) rfl)
  have N_ok := (sc_least_line).nd
  refine def_fn F sc_least_line (by rfl) (by rfl) fun cdv A outer s H E hr => ?_
  have hu : (A.deeper (envOfC "least_line" (defScope s_least_line) s.heap.objs.size fa cdv)).units + 200 < cLine := by have := hr.un; omega
  exact (lss_cons (ls_par2 rfl N_ok (by rfl) (by rfl) (by decide) (by rfl) (by rfl) (le_var (by rfl) (by first | exact Or.inl rfl | exact Or.inr (Or.inl rfl) | exact Or.inr (Or.inr rfl))) (le_lst (by decide) la_nil))
  (lss_cons (ls_for PassesOwn.never rfl (li_rng3 m_range (by rfl) (la_cons (le_bin (o := .add) (le_globI g_MOST_LINE (by rfl)) le_int) (la_cons (le_neg le_int) (la_cons (le_neg le_int) la_nil)))) (lg_nm N_ok (by rfl) (by first | exact .inl rfl | exact .inr rfl))
  (lss_cons (ls_if (lt_cmp (o := .le) hu (le_call c_line_worth hr (by rfl) (by rfl) (las_cons (lg_b (le_var (by rfl) (by first | exact Or.inl rfl | exact Or.inr (Or.inl rfl) | exact Or.inr (Or.inr rfl)))) las_nil)) (le_var (by rfl) (by first | exact Or.inl rfl | exact Or.inr (Or.inl rfl) | exact Or.inr (Or.inr rfl))) (by first | rfl | exact nomark _ | with_unfolding_all rfl))
  (lss_cons (ls_asg N_ok (by rfl) (by first | exact .inl rfl | exact .inr rfl) (le_bin (o := .sub) (le_var (by rfl) (by first | exact Or.inl rfl | exact Or.inr (Or.inl rfl) | exact Or.inr (Or.inr rfl))) (le_call c_line_worth hr (by rfl) (by rfl) (las_cons (lg_b (le_var (by rfl) (by first | exact Or.inl rfl | exact Or.inr (Or.inl rfl) | exact Or.inr (Or.inr rfl)))) las_nil))))
  (lss_cons (ls_app (by rfl) (by first | exact Or.inl rfl | exact Or.inr (Or.inl rfl) | exact Or.inr (Or.inr rfl)) (le_var (by rfl) (by first | exact Or.inl rfl | exact Or.inr (Or.inl rfl) | exact Or.inr (Or.inr rfl))))
  lss_nil))
  lss_nil)
  lss_nil))
  (lss_cons (ls_ret (le_tupS m_tuple (by rfl) (le_revL (le_var (by rfl) (by first | exact Or.inl rfl | exact Or.inr (Or.inl rfl) | exact Or.inr (Or.inr rfl))))))
  lss_nil)))
theorem bd_least_line (F : FunD K "least_line" "least_line" (defArgs s_least_line) (defBody s_least_line) (defScope s_least_line) [] [] fa fd) : Binds K fd ["value"] [] := F.bindsN fun _ _ _ _ _ _ us hl => match us, hl with | [_], _ => rfl
theorem fn__law_taken (C : Cals P w K mg base tab k Γ) (F : FunD K "_law_taken" "_law_taken" (defArgs s__law_taken) (defBody s__law_taken) (defScope s__law_taken) [] [] fa fd) (m_int : mg "int" = none) (m_len : mg "len" = none)  : FnOk P w K mg base CX0 (k + 1) fa fd ["row", "amount"] (spD ⟨P, w, K, mg⟩ (f_law_taken).md (runDf Γ f_law_taken)) := by
  have N_ok := (sc__law_taken).nd
  refine def_fn F sc__law_taken (by rfl) (by rfl) fun cdv A outer s H E hr => ?_
  have hu : (A.deeper (envOfC "_law_taken" (defScope s__law_taken) s.heap.objs.size fa cdv)).units + 200 < cLine := by have := hr.un; omega
  exact (lss_cons (ls_if (lt_cmp (o := .gt) hu (le_ix hu (fun _ _ => rfl) (le_var (by rfl) (by first | exact Or.inl rfl | exact Or.inr (Or.inl rfl) | exact Or.inr (Or.inr rfl))) le_int) le_int (by first | rfl | exact nomark _ | with_unfolding_all rfl))
  (lss_cons (ls_asg N_ok (by rfl) (by first | exact .inl rfl | exact .inr rfl) (le_bin (o := .mod) (le_int1 m_int (by rfl) (le_ix hu (fun _ _ => rfl) (le_var (by rfl) (by first | exact Or.inl rfl | exact Or.inr (Or.inl rfl) | exact Or.inr (Or.inr rfl))) le_int)) (le_var (by rfl) (by first | exact Or.inl rfl | exact Or.inr (Or.inl rfl) | exact Or.inr (Or.inr rfl)))))
  (lss_cons (ls_setI hu (by rfl) (by first | exact Or.inl rfl | exact Or.inr (Or.inl rfl) | exact Or.inr (Or.inr rfl)) (le_bin (o := .fdiv) (le_ix hu (fun _ _ => rfl) (le_var (by rfl) (by first | exact Or.inl rfl | exact Or.inr (Or.inl rfl) | exact Or.inr (Or.inr rfl))) le_int) (le_var (by rfl) (by first | exact Or.inl rfl | exact Or.inr (Or.inl rfl) | exact Or.inr (Or.inr rfl)))) le_int)
  (lss_cons (ls_ret (le_var (by rfl) (by first | exact Or.inl rfl | exact Or.inr (Or.inl rfl) | exact Or.inr (Or.inr rfl))))
  lss_nil)))
  lss_nil)
  (lss_cons (ls_setI hu (by rfl) (by first | exact Or.inl rfl | exact Or.inr (Or.inl rfl) | exact Or.inr (Or.inr rfl)) (le_bin (o := .add) (le_ix hu (fun _ _ => rfl) (le_var (by rfl) (by first | exact Or.inl rfl | exact Or.inr (Or.inl rfl) | exact Or.inr (Or.inr rfl))) le_int) le_int) le_int)
  (lss_cons (ls_if (lt_cmp (o := .gt) hu (le_ix hu (fun _ _ => rfl) (le_var (by rfl) (by first | exact Or.inl rfl | exact Or.inr (Or.inl rfl) | exact Or.inr (Or.inr rfl))) le_int) (le_len m_len (by rfl) (le_ix hu (fun _ _ => rfl) (le_var (by rfl) (by first | exact Or.inl rfl | exact Or.inr (Or.inl rfl) | exact Or.inr (Or.inr rfl))) le_int)) (by first | rfl | exact nomark _ | with_unfolding_all rfl))
  (lss_cons (ls_setI hu (by rfl) (by first | exact Or.inl rfl | exact Or.inr (Or.inl rfl) | exact Or.inr (Or.inr rfl)) (le_bin (o := .mod) (le_int1 m_int (by rfl) (le_bin (o := .add) (le_bin (o := .mul) (le_ix hu (fun _ _ => rfl) (le_var (by rfl) (by first | exact Or.inl rfl | exact Or.inr (Or.inl rfl) | exact Or.inr (Or.inr rfl))) le_int) le_int) le_int)) le_int) le_int)
  (lss_cons (ls_ret (le_bin (o := .mod) (le_int1 m_int (by rfl) (le_bin (o := .fdiv) (le_ix hu (fun _ _ => rfl) (le_var (by rfl) (by first | exact Or.inl rfl | exact Or.inr (Or.inl rfl) | exact Or.inr (Or.inr rfl))) le_int) le_int)) (le_var (by rfl) (by first | exact Or.inl rfl | exact Or.inr (Or.inl rfl) | exact Or.inr (Or.inr rfl)))))
  lss_nil))
  lss_nil)
  (lss_cons (ls_asg N_ok (by rfl) (by first | exact .inl rfl | exact .inr rfl) (le_ix hu (fun _ _ => rfl) (le_ix hu (fun _ _ => rfl) (le_var (by rfl) (by first | exact Or.inl rfl | exact Or.inr (Or.inl rfl) | exact Or.inr (Or.inr rfl))) le_int) (le_bin (o := .sub) (le_ix hu (fun _ _ => rfl) (le_var (by rfl) (by first | exact Or.inl rfl | exact Or.inr (Or.inl rfl) | exact Or.inr (Or.inr rfl))) le_int) le_int)))
  (lss_cons (ls_setI hu (by rfl) (by first | exact Or.inl rfl | exact Or.inr (Or.inl rfl) | exact Or.inr (Or.inr rfl)) (le_bin (o := .mod) (le_int1 m_int (by rfl) (le_bin (o := .add) (le_bin (o := .add) (le_bin (o := .mul) (le_ix hu (fun _ _ => rfl) (le_var (by rfl) (by first | exact Or.inl rfl | exact Or.inr (Or.inl rfl) | exact Or.inr (Or.inr rfl))) le_int) le_int) (le_var (by rfl) (by first | exact Or.inl rfl | exact Or.inr (Or.inl rfl) | exact Or.inr (Or.inr rfl)))) le_int)) le_int) le_int)
  (lss_cons (ls_if (lt_cmp (o := .ge) hu (le_var (by rfl) (by first | exact Or.inl rfl | exact Or.inr (Or.inl rfl) | exact Or.inr (Or.inr rfl))) (le_bin (o := .pow) le_int le_int) (by first | rfl | exact nomark _ | with_unfolding_all rfl))
  (lss_cons (ls_setI hu (by rfl) (by first | exact Or.inl rfl | exact Or.inr (Or.inl rfl) | exact Or.inr (Or.inr rfl)) (le_bin (o := .fdiv) (le_var (by rfl) (by first | exact Or.inl rfl | exact Or.inr (Or.inl rfl) | exact Or.inr (Or.inr rfl))) (le_var (by rfl) (by first | exact Or.inl rfl | exact Or.inr (Or.inl rfl) | exact Or.inr (Or.inr rfl)))) le_int)
  (lss_cons (ls_ret (le_bin (o := .mod) (le_int1 m_int (by rfl) (le_var (by rfl) (by first | exact Or.inl rfl | exact Or.inr (Or.inl rfl) | exact Or.inr (Or.inr rfl)))) (le_var (by rfl) (by first | exact Or.inl rfl | exact Or.inr (Or.inl rfl) | exact Or.inr (Or.inr rfl)))))
  lss_nil))
  lss_nil)
  (lss_cons (ls_ret (le_bin (o := .mod) (le_int1 m_int (by rfl) (le_bin (o := .add) (le_bin (o := .mul) (le_bin (o := .mod) (le_int1 m_int (by rfl) (le_var (by rfl) (by first | exact Or.inl rfl | exact Or.inr (Or.inl rfl) | exact Or.inr (Or.inr rfl)))) le_int) le_int) (le_bin (o := .fdiv) (le_ix hu (fun _ _ => rfl) (le_var (by rfl) (by first | exact Or.inl rfl | exact Or.inr (Or.inl rfl) | exact Or.inr (Or.inr rfl))) le_int) le_int))) (le_var (by rfl) (by first | exact Or.inl rfl | exact Or.inr (Or.inl rfl) | exact Or.inr (Or.inr rfl)))))
  lss_nil)))))))
theorem bd__law_taken (F : FunD K "_law_taken" "_law_taken" (defArgs s__law_taken) (defBody s__law_taken) (defScope s__law_taken) [] [] fa fd) : Binds K fd ["row", "amount"] [] := F.bindsN fun _ _ _ _ _ _ us hl => match us, hl with | [_, _], _ => rfl
theorem fn_law (C : Cals P w K mg base tab k Γ) (F : FunD K "law" "law" (defArgs s_law) (defBody s_law) (defScope s_law) [] [] fa fd) (m_len : mg "len" = none) (m_range : mg "range" = none) (m_tuple : mg "tuple" = none)  : FnOk P w K mg base CX0 (k + 1) fa fd ["script"] (spD ⟨P, w, K, mg⟩ (f_law).md (runDf Γ f_law)) := by
  have c__law_taken := C _ (List.mem_of_getElem? (i := 10) rfl)
  have c_do_meet := C _ (List.mem_of_getElem? (i := 8) rfl)
  have c_least_line := C _ (List.mem_of_getElem? (i := 9) rfl)
  have c_line_leaps := C _ (List.mem_of_getElem? (i := 6) rfl)
  have c_line_value := C _ (List.mem_of_getElem? (i := 4) rfl)
  have c_line_worth := C _ (List.mem_of_getElem? (i := 3) rfl)
  have c_many_leaps := C _ (List.mem_of_getElem? (i := 7) rfl)
  have c_settled := C _ (List.mem_of_getElem? (i := 5) rfl)
  have N_ok := (sc_law).nd
  refine def_fn F sc_law (by rfl) (by rfl) fun cdv A outer s H E hr => ?_
  have hu : (A.deeper (envOfC "law" (defScope s_law) s.heap.objs.size fa cdv)).units + 200 < cLine := by have := hr.un; omega
  exact (lss_cons (ls_asg N_ok (by rfl) (by first | exact .inl rfl | exact .inr rfl) (le_lst (by decide) (la_cons (le_var (by rfl) (by first | exact Or.inl rfl | exact Or.inr (Or.inl rfl) | exact Or.inr (Or.inr rfl))) (la_cons le_int (la_cons le_int (la_cons le_int la_nil))))))
  (lss_cons (ls_for PassesOwn.never rfl (li_rng2 m_range (by rfl) (la_cons le_int (la_cons le_int la_nil))) (lg_nm N_ok (by rfl) (by first | exact .inl rfl | exact .inr rfl))
  (lss_cons (ls_if (lt_cmp (o := .ne) hu (le_call c_line_worth hr (by rfl) (by rfl) (las_cons (lg_b (le_var (by rfl) (by first | exact Or.inl rfl | exact Or.inr (Or.inl rfl) | exact Or.inr (Or.inr rfl)))) las_nil)) (le_bin (o := .add) (le_call c_line_worth hr (by rfl) (by rfl) (las_cons (lg_b (le_bin (o := .sub) (le_var (by rfl) (by first | exact Or.inl rfl | exact Or.inr (Or.inl rfl) | exact Or.inr (Or.inr rfl))) le_int)) las_nil)) (le_call c_line_worth hr (by rfl) (by rfl) (las_cons (lg_b (le_bin (o := .sub) (le_var (by rfl) (by first | exact Or.inl rfl | exact Or.inr (Or.inl rfl) | exact Or.inr (Or.inr rfl))) le_int)) las_nil))) (by first | rfl | exact nomark _ | with_unfolding_all rfl))
  (lss_cons (ls_ret le_bl)
  lss_nil)
  lss_nil)
  (lss_cons (ls_asg N_ok (by rfl) (by first | exact .inl rfl | exact .inr rfl) (le_tupS m_tuple (by rfl) (le_comp rfl N_ok (li_rng1 m_range (by rfl) (la_cons (le_var (by rfl) (by first | exact Or.inl rfl | exact Or.inr (Or.inl rfl) | exact Or.inr (Or.inr rfl))) la_nil)) (blkOk_by (own := [("k", 4)]) (by kernel_rfl)) (by rfl) (fun _ _ _ _ _ => (lg_nm N_ok (by rfl) (by first | exact .inl rfl | exact .inr rfl))) (fun _ _ _ _ _ => (lts_one (lt_cmp (o := .eq) hu (le_bin (o := .mod) (le_bin (o := .sub) (le_bin (o := .sub) (le_var (by rfl) (by first | exact Or.inl rfl | exact Or.inr (Or.inl rfl) | exact Or.inr (Or.inr rfl))) le_int) (le_var (by rfl) (by first | exact Or.inl rfl | exact Or.inr (Or.inl rfl) | exact Or.inr (Or.inr rfl)))) le_int) le_int (by first | rfl | exact nomark _ | with_unfolding_all rfl)))) (fun _ _ _ _ _ => (le_var (by rfl) (by first | exact Or.inl rfl | exact Or.inr (Or.inl rfl) | exact Or.inr (Or.inr rfl)))))))
  (lss_cons (ls_if ((lw_or (lt_cmp (o := .ne) hu (le_call c_line_value hr (by rfl) (by rfl) (las_cons (lg_b (le_var (by rfl) (by first | exact Or.inl rfl | exact Or.inr (Or.inl rfl) | exact Or.inr (Or.inr rfl)))) las_nil)) (le_bin (o := .sub) (le_call c_line_worth hr (by rfl) (by rfl) (las_cons (lg_b (le_var (by rfl) (by first | exact Or.inl rfl | exact Or.inr (Or.inl rfl) | exact Or.inr (Or.inr rfl)))) las_nil)) le_int) (by first | rfl | exact nomark _ | with_unfolding_all rfl)) (lw_or (lt_cmp (o := .ne) hu (le_call c_least_line hr (by rfl) (by rfl) (las_cons (lg_a (le_bin (o := .sub) (le_call c_line_worth hr (by rfl) (by rfl) (las_cons (lg_b (le_var (by rfl) (by first | exact Or.inl rfl | exact Or.inr (Or.inl rfl) | exact Or.inr (Or.inr rfl)))) las_nil)) le_int)) las_nil)) (le_var (by rfl) (by first | exact Or.inl rfl | exact Or.inr (Or.inl rfl) | exact Or.inr (Or.inr rfl))) (by first | rfl | exact nomark _ | with_unfolding_all rfl)) (lw_or1 (lt_cmp (o := .ne) hu (le_call c_least_line hr (by rfl) (by rfl) (las_cons (lg_a (le_call c_line_worth hr (by rfl) (by rfl) (las_cons (lg_b (le_var (by rfl) (by first | exact Or.inl rfl | exact Or.inr (Or.inl rfl) | exact Or.inr (Or.inr rfl)))) las_nil))) las_nil)) (le_tup (by decide) (la_cons (le_var (by rfl) (by first | exact Or.inl rfl | exact Or.inr (Or.inl rfl) | exact Or.inr (Or.inr rfl))) la_nil)) (by first | rfl | exact nomark _ | with_unfolding_all rfl)))))).pt
  (lss_cons (ls_ret le_bl)
  lss_nil)
  lss_nil)
  lss_nil))))
  (lss_cons (ls_if (lt_cmp (o := .ne) hu (le_tup (by decide) (la_cons (le_call c_line_worth hr (by rfl) (by rfl) (las_cons (lg_b le_int) las_nil)) (la_cons (le_call c_line_worth hr (by rfl) (by rfl) (las_cons (lg_b le_int) las_nil)) (la_cons (le_call c_least_line hr (by rfl) (by rfl) (las_cons (lg_a le_int) las_nil)) (la_cons (le_call c_least_line hr (by rfl) (by rfl) (las_cons (lg_a le_int) las_nil)) (la_cons (le_call c_least_line hr (by rfl) (by rfl) (las_cons (lg_a le_int) las_nil)) la_nil)))))) (le_tup (by decide) (la_cons le_int (la_cons le_int (la_cons (le_tup (by decide) la_nil) (la_cons (le_tup (by decide) (la_cons le_int la_nil)) (la_cons (le_tup (by decide) (la_cons le_int la_nil)) la_nil)))))) (by first | rfl | exact nomark _ | with_unfolding_all rfl))
  (lss_cons (ls_ret le_bl)
  lss_nil)
  lss_nil)
  (lss_cons (ls_for PassesOwn.never rfl (li_rng1 m_range (by rfl) (la_cons le_int la_nil)) (lg_nm N_ok (by rfl) (by first | exact .inl rfl | exact .inr rfl))
  (lss_cons (ls_asg N_ok (by rfl) (by first | exact .inl rfl | exact .inr rfl) (le_call c__law_taken hr (by rfl) (by rfl) (las_cons (lg_io (by rfl) (by first | exact Or.inl rfl | exact Or.inr (Or.inl rfl) | exact Or.inr (Or.inr rfl))) (las_cons (lg_b le_int) las_nil))))
  (lss_cons (ls_asg N_ok (by rfl) (by first | exact .inl rfl | exact .inr rfl) (le_call c_least_line hr (by rfl) (by rfl) (las_cons (lg_a (le_var (by rfl) (by first | exact Or.inl rfl | exact Or.inr (Or.inl rfl) | exact Or.inr (Or.inr rfl)))) las_nil)))
  (lss_cons (ls_if ((lw_or (lt_cmp (o := .ne) hu (le_call c_line_value hr (by rfl) (by rfl) (las_cons (lg_b (le_var (by rfl) (by first | exact Or.inl rfl | exact Or.inr (Or.inl rfl) | exact Or.inr (Or.inr rfl)))) las_nil)) (le_var (by rfl) (by first | exact Or.inl rfl | exact Or.inr (Or.inl rfl) | exact Or.inr (Or.inr rfl))) (by first | rfl | exact nomark _ | with_unfolding_all rfl)) (lw_or (lt_cmp (o := .ne) hu (le_call c_settled hr (by rfl) (by rfl) (las_cons (lg_b (le_var (by rfl) (by first | exact Or.inl rfl | exact Or.inr (Or.inl rfl) | exact Or.inr (Or.inr rfl)))) las_nil)) (le_var (by rfl) (by first | exact Or.inl rfl | exact Or.inr (Or.inl rfl) | exact Or.inr (Or.inr rfl))) (by first | rfl | exact nomark _ | with_unfolding_all rfl)) (lw_or (lt_cmp (o := .ne) hu (le_call c_line_leaps hr (by rfl) (by rfl) (las_cons (lg_b (le_var (by rfl) (by first | exact Or.inl rfl | exact Or.inr (Or.inl rfl) | exact Or.inr (Or.inr rfl)))) las_nil)) (le_tup (by decide) la_nil) (by first | rfl | exact nomark _ | with_unfolding_all rfl)) (lw_or1 (lt_cmp (o := .ne) hu (le_call c_many_leaps hr (by rfl) (by rfl) (las_cons (lg_b (le_var (by rfl) (by first | exact Or.inl rfl | exact Or.inr (Or.inl rfl) | exact Or.inr (Or.inr rfl)))) las_nil)) le_int (by first | rfl | exact nomark _ | with_unfolding_all rfl))))))).pt
  (lss_cons (ls_ret le_bl)
  lss_nil)
  lss_nil)
  (lss_cons (ls_if (lt_cmp (o := .ne) hu (le_comp rfl N_ok (li_rng1 m_range (by rfl) (la_cons (le_bin (o := .sub) (le_len m_len (by rfl) (le_var (by rfl) (by first | exact Or.inl rfl | exact Or.inr (Or.inl rfl) | exact Or.inr (Or.inr rfl)))) le_int) la_nil)) (blkOk_by (own := [("k", 4)]) (by kernel_rfl)) (by rfl) (fun _ _ _ _ _ => (lg_nm N_ok (by rfl) (by first | exact .inl rfl | exact .inr rfl))) (fun _ _ _ _ _ => (lts_one (lt_cmp (o := .lt) hu (le_bin (o := .sub) (le_ix hu (fun _ _ => rfl) (le_var (by rfl) (by first | exact Or.inl rfl | exact Or.inr (Or.inl rfl) | exact Or.inr (Or.inr rfl))) (le_bin (o := .add) (le_var (by rfl) (by first | exact Or.inl rfl | exact Or.inr (Or.inl rfl) | exact Or.inr (Or.inr rfl))) le_int)) (le_ix hu (fun _ _ => rfl) (le_var (by rfl) (by first | exact Or.inl rfl | exact Or.inr (Or.inl rfl) | exact Or.inr (Or.inr rfl))) (le_var (by rfl) (by first | exact Or.inl rfl | exact Or.inr (Or.inl rfl) | exact Or.inr (Or.inr rfl))))) le_int (by first | rfl | exact nomark _ | with_unfolding_all rfl)))) (fun _ _ _ _ _ => (le_var (by rfl) (by first | exact Or.inl rfl | exact Or.inr (Or.inl rfl) | exact Or.inr (Or.inr rfl))))) (le_lst (by decide) la_nil) (by first | rfl | exact nomark _ | with_unfolding_all rfl))
  (lss_cons (ls_ret le_bl)
  lss_nil)
  lss_nil)
  (lss_cons (ls_asg N_ok (by rfl) (by first | exact .inl rfl | exact .inr rfl) (le_call c_least_line hr (by rfl) (by rfl) (las_cons (lg_a (le_bin (o := .add) (le_var (by rfl) (by first | exact Or.inl rfl | exact Or.inr (Or.inl rfl) | exact Or.inr (Or.inr rfl))) le_int)) las_nil)))
  (lss_cons (ls_if ((lw_or (lt_val (le_call c_do_meet hr (by rfl) (by rfl) (las_cons (lg_b (le_var (by rfl) (by first | exact Or.inl rfl | exact Or.inr (Or.inl rfl) | exact Or.inr (Or.inr rfl)))) (las_cons (lg_b (le_var (by rfl) (by first | exact Or.inl rfl | exact Or.inr (Or.inl rfl) | exact Or.inr (Or.inr rfl)))) las_nil)))) (lw_or1 (lt_cmp (o := .ne) hu (le_call c_line_value hr (by rfl) (by rfl) (las_cons (lg_b (le_var (by rfl) (by first | exact Or.inl rfl | exact Or.inr (Or.inl rfl) | exact Or.inr (Or.inr rfl)))) las_nil)) (le_bin (o := .add) (le_var (by rfl) (by first | exact Or.inl rfl | exact Or.inr (Or.inl rfl) | exact Or.inr (Or.inr rfl))) le_int) (by first | rfl | exact nomark _ | with_unfolding_all rfl))))).pt
  (lss_cons (ls_ret le_bl)
  lss_nil)
  lss_nil)
  (lss_cons (ls_if ((lw_and (lt_cmp (o := .notin) hu le_int (le_var (by rfl) (by first | exact Or.inl rfl | exact Or.inr (Or.inl rfl) | exact Or.inr (Or.inr rfl))) (by first | rfl | exact nomark _ | with_unfolding_all rfl)) (lw_and (lt_cmp (o := .notin) hu le_int (le_var (by rfl) (by first | exact Or.inl rfl | exact Or.inr (Or.inl rfl) | exact Or.inr (Or.inr rfl))) (by first | rfl | exact nomark _ | with_unfolding_all rfl)) (lw_and1 (lt_cmp (o := .ne) hu (le_var (by rfl) (by first | exact Or.inl rfl | exact Or.inr (Or.inl rfl) | exact Or.inr (Or.inr rfl))) (le_bin (o := .add) (le_tup (by decide) (la_cons le_int la_nil)) (le_var (by rfl) (by first | exact Or.inl rfl | exact Or.inr (Or.inl rfl) | exact Or.inr (Or.inr rfl)))) (by first | rfl | exact nomark _ | with_unfolding_all rfl)))))).pt
  (lss_cons (ls_ret le_bl)
  lss_nil)
  lss_nil)
  lss_nil))))))))
  (lss_cons (ls_ret le_bl)
  lss_nil)))))
theorem bd_law (F : FunD K "law" "law" (defArgs s_law) (defBody s_law) (defScope s_law) [] [] fa fd) : Binds K fd ["script"] [] := F.bindsN fun _ _ _ _ _ _ us hl => match us, hl with | [_], _ => rfl
end
def d_is_number : He.DefD := ⟨("is_number", none), "is_number", "is_number", defArgs s_is_number, defBody s_is_number, defScope s_is_number, [], []⟩
def d_first_false : He.DefD := ⟨("first_false", none), "first_false", "first_false", defArgs s_first_false, defBody s_first_false, defScope s_first_false, [], []⟩
def d_need_line : He.DefD := ⟨("need_line", none), "need_line", "need_line", defArgs s_need_line, defBody s_need_line, defScope s_need_line, [], []⟩
def d_line_worth : He.DefD := ⟨("line_worth", none), "line_worth", "line_worth", defArgs s_line_worth, defBody s_line_worth, defScope s_line_worth, [], []⟩
def d_line_value : He.DefD := ⟨("line_value", none), "line_value", "line_value", defArgs s_line_value, defBody s_line_value, defScope s_line_value, [], []⟩
def d_settled : He.DefD := ⟨("settled", none), "settled", "settled", defArgs s_settled, defBody s_settled, defScope s_settled, [], []⟩
def d_line_leaps : He.DefD := ⟨("line_leaps", none), "line_leaps", "line_leaps", defArgs s_line_leaps, defBody s_line_leaps, defScope s_line_leaps, [], []⟩
def d_many_leaps : He.DefD := ⟨("many_leaps", none), "many_leaps", "many_leaps", defArgs s_many_leaps, defBody s_many_leaps, defScope s_many_leaps, [], []⟩
def d_do_meet : He.DefD := ⟨("do_meet", none), "do_meet", "do_meet", defArgs s_do_meet, defBody s_do_meet, defScope s_do_meet, [], []⟩
def d_least_line : He.DefD := ⟨("least_line", none), "least_line", "least_line", defArgs s_least_line, defBody s_least_line, defScope s_least_line, [], []⟩
def d__law_taken : He.DefD := ⟨("_law_taken", none), "_law_taken", "_law_taken", defArgs s__law_taken, defBody s__law_taken, defScope s__law_taken, [], []⟩
def d_law : He.DefD := ⟨("law", none), "law", "law", defArgs s_law, defBody s_law, defScope s_law, [], []⟩
def fnL : List He.DefD := [d_is_number, d_first_false, d_need_line, d_line_worth, d_line_value, d_settled, d_line_leaps, d_many_leaps, d_do_meet, d_least_line, d__law_taken, d_law]
def faL : List He.Fa := [.glo "is_number", .glo "first_false", .glo "need_line", .glo "line_worth", .glo "line_value", .glo "settled", .glo "line_leaps", .glo "many_leaps", .glo "do_meet", .glo "least_line", .glo "_law_taken", .glo "law", .free "bool", .free "enumerate", .free "int", .free "isinstance", .free "len", .free "range", .free "sum", .free "tuple", .int "MOST_LINE" (40)]
abbrev R : PySem.W.OpenRow := PySem.W.OpenLaw.row PySem.Challenge.rw_leaptover_k89_least_lines_count_up
abbrev hk : PySem.W.Hook := He.hookD 4 faL fnL
def ob (s : PySem.W.SharedT) : He.AlD := He.obsDG 4 faL fnL (HandSHeadRun.getT s)
theorem ob_eq (s : PySem.W.SharedT) : ob s = hk.obs s.abs := He.obsDG_eq (HandSHeadRun.getT_eq s)
def loose0 : List PySem.Str := ["is_number", "first_false", "LeapError", "BadPegs", "MOST_LINE", "need_line", "line_worth", "line_value", "settled", "line_leaps", "many_leaps", "do_meet", "least_line", "_law_taken"]
abbrev loose : List PySem.Str := loose0
set_option maxHeartbeats 0 in
theorem run (w : World) : HandSHeadRun.RunEq R (PySem.W.view R.prog [18]) hk ob 8000 loose w := by
  intro os
  kernel_rfl
section
variable {P : Program} {w : World} {K : PySem.W.Frag} {h : Heap} {mg : Str → Option Value} {f : Addr}
theorem facts (X : K.In h) (G : h.Ns mainGlobals mg) (hfa : mg ("law" : Str) = some (.ref f)) (c : He.SaysD faL fnL K) :
    ∃ fd : FuncData, (∀ (s : Shared) (v : Value), BindsTo s fd ⟨[v], []⟩ [("script", v)]) ∧ ∀ base : Heap, FnOk P w K mg base CX0 (order.length + 1) f fd ["script"] (spD ⟨P, w, K, mg⟩ (f_law).md (runDf (gam (progOf tab order)) f_law)) := by
  obtain ⟨fd_is_number, F_is_number⟩ := c.def_ 0 (d := d_is_number) rfl
  have h_is_number := He.glo_ok X G (c.fact 0 (f := .glo "is_number") rfl)
  obtain ⟨fd_first_false, F_first_false⟩ := c.def_ 1 (d := d_first_false) rfl
  have h_first_false := He.glo_ok X G (c.fact 1 (f := .glo "first_false") rfl)
  obtain ⟨fd_need_line, F_need_line⟩ := c.def_ 2 (d := d_need_line) rfl
  have h_need_line := He.glo_ok X G (c.fact 2 (f := .glo "need_line") rfl)
  obtain ⟨fd_line_worth, F_line_worth⟩ := c.def_ 3 (d := d_line_worth) rfl
  have h_line_worth := He.glo_ok X G (c.fact 3 (f := .glo "line_worth") rfl)
  obtain ⟨fd_line_value, F_line_value⟩ := c.def_ 4 (d := d_line_value) rfl
  have h_line_value := He.glo_ok X G (c.fact 4 (f := .glo "line_value") rfl)
  obtain ⟨fd_settled, F_settled⟩ := c.def_ 5 (d := d_settled) rfl
  have h_settled := He.glo_ok X G (c.fact 5 (f := .glo "settled") rfl)
  obtain ⟨fd_line_leaps, F_line_leaps⟩ := c.def_ 6 (d := d_line_leaps) rfl
  have h_line_leaps := He.glo_ok X G (c.fact 6 (f := .glo "line_leaps") rfl)
  obtain ⟨fd_many_leaps, F_many_leaps⟩ := c.def_ 7 (d := d_many_leaps) rfl
  have h_many_leaps := He.glo_ok X G (c.fact 7 (f := .glo "many_leaps") rfl)
  obtain ⟨fd_do_meet, F_do_meet⟩ := c.def_ 8 (d := d_do_meet) rfl
  have h_do_meet := He.glo_ok X G (c.fact 8 (f := .glo "do_meet") rfl)
  obtain ⟨fd_least_line, F_least_line⟩ := c.def_ 9 (d := d_least_line) rfl
  have h_least_line := He.glo_ok X G (c.fact 9 (f := .glo "least_line") rfl)
  obtain ⟨fd__law_taken, F__law_taken⟩ := c.def_ 10 (d := d__law_taken) rfl
  have h__law_taken := He.glo_ok X G (c.fact 10 (f := .glo "_law_taken") rfl)
  obtain ⟨fd_law, F_law⟩ := c.def_ 11 (d := d_law) rfl
  have h_law := He.glo_ok X G (c.fact 11 (f := .glo "law") rfl)
  have m_bool := He.free_ok X G (c.fact 12 (f := .free "bool") rfl)
  have m_enumerate := He.free_ok X G (c.fact 13 (f := .free "enumerate") rfl)
  have m_int := He.free_ok X G (c.fact 14 (f := .free "int") rfl)
  have m_isinstance := He.free_ok X G (c.fact 15 (f := .free "isinstance") rfl)
  have m_len := He.free_ok X G (c.fact 16 (f := .free "len") rfl)
  have m_range := He.free_ok X G (c.fact 17 (f := .free "range") rfl)
  have m_sum := He.free_ok X G (c.fact 18 (f := .free "sum") rfl)
  have m_tuple := He.free_ok X G (c.fact 19 (f := .free "tuple") rfl)
  obtain ⟨t_MOST_LINE, g_MOST_LINE⟩ := He.int_ok X G (c.fact 20 (f := .int "MOST_LINE" (40)) rfl)
  have h0 : ∀ p ∈ tab, ∃ (f : Addr) (fd : FuncData) (ps : List Str), mg p.2.1 = some (.ref f) ∧ PySem.W.keepIn K (.ref f) = true ∧ Binds K fd ps [] := by
    refine all_cons ⟨_, fd_is_number, _, h_is_number, F_is_number.kp, bd_is_number F_is_number⟩ ?_
    refine all_cons ⟨_, fd_first_false, _, h_first_false, F_first_false.kp, bd_first_false F_first_false⟩ ?_
    refine all_cons ⟨_, fd_need_line, _, h_need_line, F_need_line.kp, bd_need_line F_need_line⟩ ?_
    refine all_cons ⟨_, fd_line_worth, _, h_line_worth, F_line_worth.kp, bd_line_worth F_line_worth⟩ ?_
    refine all_cons ⟨_, fd_line_value, _, h_line_value, F_line_value.kp, bd_line_value F_line_value⟩ ?_
    refine all_cons ⟨_, fd_settled, _, h_settled, F_settled.kp, bd_settled F_settled⟩ ?_
    refine all_cons ⟨_, fd_line_leaps, _, h_line_leaps, F_line_leaps.kp, bd_line_leaps F_line_leaps⟩ ?_
    refine all_cons ⟨_, fd_many_leaps, _, h_many_leaps, F_many_leaps.kp, bd_many_leaps F_many_leaps⟩ ?_
    refine all_cons ⟨_, fd_do_meet, _, h_do_meet, F_do_meet.kp, bd_do_meet F_do_meet⟩ ?_
    refine all_cons ⟨_, fd_least_line, _, h_least_line, F_least_line.kp, bd_least_line F_least_line⟩ ?_
    refine all_cons ⟨_, fd__law_taken, _, h__law_taken, F__law_taken.kp, bd__law_taken F__law_taken⟩ ?_
    refine all_cons ⟨_, fd_law, _, h_law, F_law.kp, bd_law F_law⟩ ?_
    exact all_nil
  have hc : ∀ base : Heap, ∀ p ∈ tab, ∀ (k : Nat) (Γ : Gam), Cals P w K mg base tab k Γ → Cal P w K mg base (k + 1) p.2.1 p.2.2.md (runDf Γ p.2.2) := by
    intro base
    refine all_cons (fun k Γ C => ⟨_, fd_is_number, _, fn_is_number C F_is_number m_bool m_int m_isinstance, h_is_number, F_is_number.kp, bd_is_number F_is_number⟩) ?_
    refine all_cons (fun k Γ C => ⟨_, fd_first_false, _, fn_first_false C F_first_false m_enumerate, h_first_false, F_first_false.kp, bd_first_false F_first_false⟩) ?_
    refine all_cons (fun k Γ C => ⟨_, fd_need_line, _, fn_need_line C F_need_line m_enumerate m_isinstance m_tuple g_MOST_LINE, h_need_line, F_need_line.kp, bd_need_line F_need_line⟩) ?_
    refine all_cons (fun k Γ C => ⟨_, fd_line_worth, _, fn_line_worth C F_line_worth m_range, h_line_worth, F_line_worth.kp, bd_line_worth F_line_worth⟩) ?_
    refine all_cons (fun k Γ C => ⟨_, fd_line_value, _, fn_line_value C F_line_value m_sum, h_line_value, F_line_value.kp, bd_line_value F_line_value⟩) ?_
    refine all_cons (fun k Γ C => ⟨_, fd_settled, _, fn_settled C F_settled , h_settled, F_settled.kp, bd_settled F_settled⟩) ?_
    refine all_cons (fun k Γ C => ⟨_, fd_line_leaps, _, fn_line_leaps C F_line_leaps m_tuple, h_line_leaps, F_line_leaps.kp, bd_line_leaps F_line_leaps⟩) ?_
    refine all_cons (fun k Γ C => ⟨_, fd_many_leaps, _, fn_many_leaps C F_many_leaps m_len, h_many_leaps, F_many_leaps.kp, bd_many_leaps F_many_leaps⟩) ?_
    refine all_cons (fun k Γ C => ⟨_, fd_do_meet, _, fn_do_meet C F_do_meet , h_do_meet, F_do_meet.kp, bd_do_meet F_do_meet⟩) ?_
    refine all_cons (fun k Γ C => ⟨_, fd_least_line, _, fn_least_line C F_least_line m_range m_tuple g_MOST_LINE, h_least_line, F_least_line.kp, bd_least_line F_least_line⟩) ?_
    refine all_cons (fun k Γ C => ⟨_, fd__law_taken, _, fn__law_taken C F__law_taken m_int m_len, h__law_taken, F__law_taken.kp, bd__law_taken F__law_taken⟩) ?_
    refine all_cons (fun k Γ C => ⟨_, fd_law, _, fn_law C F_law m_len m_range m_tuple, h_law, F_law.kp, bd_law F_law⟩) ?_
    exact all_nil
  have e := hfa.symm.trans h_law
  cases e
  have b := FunD.bindsA (ps := ["script"]) F_law fun _ _ _ _ _ _ us hl => match us, hl with | [_], _ => rfl
  exact ⟨fd_law, fun s v => b s [v] rfl, fun base => fn_law (cals_all (by decide +kernel) h0 (hc base) order) F_law m_len m_range m_tuple⟩
end
end LT.K89
open PySem PySem.W PySem.Calls PyProof.Rows
theorem LT.K89.holds (pure_law : ∀ ns : List Int, ns.length ≤ 63 → ∃ own, LT.runDf (LT.gam (LT.progOf LT.K89.tab LT.K89.order)) LT.K89.f_law [.list (ns.map PyData.int)] = some (.bool true, own, [])) : PySem.Challenge.rw_leaptover_k89_least_lines_count_up.Holds := by
  w_on; o_law
  refine HandSHeadRun.head_any (r := OpenLaw.row PySem.Challenge.rw_leaptover_k89_least_lines_count_up) (q := view (OpenLaw.row PySem.Challenge.rw_leaptover_k89_least_lines_count_up).prog [18]) (H := LT.K89.hk) (ob := LT.K89.ob) (M := 8000) (loose := LT.K89.loose) (d := HandSHeadRun.topDef (OpenLaw.row PySem.Challenge.rw_leaptover_k89_least_lines_count_up).prog 18) (kwd := []) LT.K89.ob_eq
    (by kernel_rfl) (fun s => by kernel_rfl) LT.K89.run (by kernel_rfl) (by kernel_rfl) (by kernel_rfl) (by rfl) (by first | assumption | decide +kernel) (by decide +kernel) ⟨rfl, rfl, rfl, rfl, rfl, by decide +kernel⟩ ?hw ?hc
  case hw => w_witness2
  case hc =>
    refine L2.walk_ofE (l := PySem.Challenge.rw_leaptover_k89_least_lines_count_up) (n := 63) (k := LT.K89.order.length + 1) (x := "script") (CX := L2.CX0) rfl (by decide) (by kernel_rfl) ⟨rfl, by decide, by decide⟩ ?F (fun _ _ _ _ z => z)
    intro w mg fa h Y G hmg0
    obtain ⟨K, KX, c⟩ := Y
    have hmg : mg ("law" : PySem.Str) = some (.ref fa) := by
      have e : (HandSHeadRun.topDef (OpenLaw.row PySem.Challenge.rw_leaptover_k89_least_lines_count_up).prog 18).name = ("law" : PySem.Str) := by kernel_rfl
      rw [← e]
      exact hmg0
    obtain ⟨fd, hb, hF⟩ := LT.K89.facts (P := (PySem.Challenge.rw_leaptover_k89_least_lines_count_up).prog) (w := w) KX G hmg c
    exact ⟨K, fd, _, KX, hb, fun H a ns hl _ hS => LT.law_sp hS (pure_law ns hl) _, fun base _ _ => hF base⟩
end
section
set_option linter.all false
set_option maxRecDepth 100000
/-! Reckoning with the small language. -/
namespace LT
open PySem
section
variable {Γ : Gam} {f : D → Ro → Option Oc}
/-- all turns pass -/
theorem for_go (inv : Nat → Ro → Prop) : ∀ (ds : List D) (k : Nat) (ρ : Ro), inv k ρ → (∀ i (hi : i < ds.length) ρ, inv (k + i) ρ → ∃ ρ', (f ds[i] ρ = some (.nx ρ') ∨ f ds[i] ρ = some (.ct ρ')) ∧ inv (k + i + 1) ρ') → ∃ ρ', forL f ds ρ = some (.nx ρ') ∧ inv (k + ds.length) ρ'
  | [], k, ρ, h, _ => ⟨ρ, rfl, h⟩
  | d :: ds, k, ρ, h, st => by
    obtain ⟨ρ1, e, h1⟩ := st 0 (Nat.zero_lt_succ _) ρ h
    obtain ⟨ρ2, e2, h2⟩ := for_go inv ds (k + 1) ρ1 (by simpa using h1) fun i hi ρ hp => by
      have := st (i + 1) (Nat.succ_lt_succ hi) ρ (by rw [show k + (i + 1) = k + 1 + i by omega]; exact hp)
      rw [show k + (i + 1) + 1 = k + 1 + i + 1 by omega] at this
      exact this
    refine ⟨ρ2, ?_, by rw [List.length_cons, show k + (ds.length + 1) = k + 1 + ds.length by omega]; exact h2⟩
    unfold forL
    have e' : f d ρ = some (.nx ρ1) ∨ f d ρ = some (.ct ρ1) := e
    rcases e' with e' | e' <;> (rw [e']; exact e2)
/-- a block runs and ends so -/
def Run (Γ : Gam) (ss : List St) (ρ : Ro) (P : Oc → Prop) : Prop := ∃ o, sxs Γ ss ρ = some o ∧ P o
theorem sxs_cons (Γ : Gam) (s : St) (ss : List St) (ρ : Ro) : sxs Γ (s :: ss) ρ = (match sx Γ s ρ with | some (.nx ρ1) => sxs Γ ss ρ1 | r => r) := rfl
theorem run_nil {ρ : Ro} {P : Oc → Prop} (h : P (.nx ρ)) : Run Γ [] ρ P := ⟨_, rfl, h⟩
theorem run_nx {s : St} {ss : List St} {ρ ρ1 : Ro} {P : Oc → Prop} (h : sx Γ s ρ = some (.nx ρ1)) (k : Run Γ ss ρ1 P) : Run Γ (s :: ss) ρ P := by
  obtain ⟨o, e, p⟩ := k
  exact ⟨o, by rw [sxs_cons, h]; exact e, p⟩
theorem run_rt {s : St} {ss : List St} {ρ ρ1 : Ro} {d : D} {w : Bool} {P : Oc → Prop} (h : sx Γ s ρ = some (.rt d w ρ1)) (k : P (.rt d w ρ1)) : Run Γ (s :: ss) ρ P := ⟨_, by rw [sxs_cons, h], k⟩
theorem run_brk {ss : List St} {ρ : Ro} {P : Oc → Prop} (k : P (.bk ρ)) : Run Γ (.brk :: ss) ρ P := ⟨_, rfl, k⟩
theorem run_cnt {ss : List St} {ρ : Ro} {P : Oc → Prop} (k : P (.ct ρ)) : Run Γ (.cnt :: ss) ρ P := ⟨_, rfl, k⟩
theorem Run.mono {ss : List St} {ρ : Ro} {P Q : Oc → Prop} (h : Run Γ ss ρ P) (k : ∀ o, P o → Q o) : Run Γ ss ρ Q := let ⟨o, e, p⟩ := h; ⟨o, e, k o p⟩
/-- what a branch hands on -/
def Then (Γ : Gam) (ss : List St) (P : Oc → Prop) : Oc → Prop
  | .nx ρ => Run Γ ss ρ P
  | o => P o
theorem run_sub {s : St} {ss : List St} {ρ : Ro} {P : Oc → Prop} (h : ∃ o, sx Γ s ρ = some o ∧ Then Γ ss P o) : Run Γ (s :: ss) ρ P := by
  obtain ⟨o, e, p⟩ := h
  cases o with
  | nx ρ1 => exact run_nx e p
  | rt d w ρ1 => exact run_rt e p
  | bk ρ1 => exact ⟨_, by rw [sxs_cons, e], p⟩
  | ct ρ1 => exact ⟨_, by rw [sxs_cons, e], p⟩
theorem run_if {c : Ex} {t e ss : List St} {ρ ρ1 : Ro} {b : Bool} {P : Oc → Prop} (h : evB Γ c ρ = some (b, ρ1)) (ht : b = true → Run Γ t ρ1 (Then Γ ss P)) (he : b = false → Run Γ e ρ1 (Then Γ ss P)) : Run Γ (.ifs c t e :: ss) ρ P := by
  refine run_sub ?_
  have q : sx Γ (.ifs c t e) ρ = if b = true then sxs Γ t ρ1 else sxs Γ e ρ1 := by
    show ((evB Γ c ρ).bind _) = _
    rw [h]
    rfl
  rw [q]
  cases b with
  | true => rw [if_pos rfl]; exact ht rfl
  | false => rw [if_neg Bool.false_ne_true]; exact he rfl
theorem sx_for {tg : Tg} {it : It} {body : List St} {ρ ρ1 : Ro} {ds : List D} (h : evI Γ it ρ = some (ds, ρ1)) : sx Γ (.for_ tg it body) ρ = forL (fun d r => (bindT r tg d).bind fun r1 => sxs Γ body r1) ds ρ1 := by
  show ((evI Γ it ρ).bind _) = _
  rw [h]
  rfl
/-- a loop that goes through -/
theorem run_for {tg : Tg} {it : It} {body ss : List St} {ρ ρ1 : Ro} {ds : List D} {P : Oc → Prop} (h : evI Γ it ρ = some (ds, ρ1)) (inv : Nat → Ro → Prop) (h0 : inv 0 ρ1)
    (st : ∀ i (hi : i < ds.length) ρ, inv i ρ → ∃ r1, bindT ρ tg ds[i] = some r1 ∧ Run Γ body r1 fun o => ∃ ρ', (o = .nx ρ' ∨ o = .ct ρ') ∧ inv (i + 1) ρ') (k : ∀ ρ', inv ds.length ρ' → Run Γ ss ρ' P) : Run Γ (.for_ tg it body :: ss) ρ P := by
  obtain ⟨ρ', e, hi⟩ := for_go (f := fun d r => (bindT r tg d).bind fun r1 => sxs Γ body r1) inv ds 0 ρ1 h0 fun i hi ρ hp => by
    rw [Nat.zero_add] at hp ⊢
    obtain ⟨r1, e1, o, e2, ρ', eo, hp'⟩ := st i hi ρ hp
    refine ⟨ρ', ?_, hp'⟩
    show (((bindT ρ tg ds[i]).bind fun r1 => sxs Γ body r1) = _) ∨ (((bindT ρ tg ds[i]).bind fun r1 => sxs Γ body r1) = _)
    rw [e1]
    rcases eo with rfl | rfl
    · exact .inl e2
    · exact .inr e2
  rw [Nat.zero_add] at hi
  exact run_nx ((sx_for h).trans e) (k ρ' hi)
theorem enumP_len : ∀ (ds : List D) (m : Nat), (enumL m ds).length = ds.length
  | [], _ => rfl
  | d :: r, m => by
    show (enumL (m + 1) r).length + 1 = _
    rw [enumP_len r (m + 1), List.length_cons]
theorem enumP_at : ∀ (ds : List D) (m i : Nat) (hi : i < (enumL m ds).length), (enumL m ds)[i] = .tuple [.int ((m + i : Nat) : Int), ds[i]'(by rw [enumP_len] at hi; exact hi)]
  | [], _, _, hi => by cases hi
  | d :: r, m, 0, _ => rfl
  | d :: r, m, i + 1, hi => by
    have q := enumP_at r (m + 1) i (Nat.lt_of_succ_lt_succ hi)
    show (enumL (m + 1) r)[i]'(Nat.lt_of_succ_lt_succ hi) = _
    rw [q, show m + 1 + i = m + (i + 1) by omega]
    rfl
/-! expressions, step by step -/
theorem bi_of {g : D → D → Option (D × Bool)} {a b : Ex} {ρ ρ1 ρ2 : Ro} {h1 h2 : Hd} {x y d : D} {w : Bool} (e1 : ev Γ a ρ = some (h1, ρ1)) (e2 : ev Γ b ρ1 = some (h2, ρ2)) (g1 : h1.get ρ2 = some x) (g2 : h2.get ρ2 = some y) (q : g x y = some (d, w)) : bi1 g (ev Γ a ρ) (ev Γ b) = some (.d d w, ρ2) := by
  unfold bi1
  rw [e1]
  dsimp only
  rw [e2]
  dsimp only
  rw [g1, g2]
  dsimp only
  rw [q]
theorem un_of {g : D → Option (D × Bool)} {a : Ex} {ρ ρ1 : Ro} {h1 : Hd} {x d : D} {w : Bool} (e1 : ev Γ a ρ = some (h1, ρ1)) (g1 : h1.get ρ1 = some x) (q : g x = some (d, w)) : un1 g (ev Γ a ρ) = some (.d d w, ρ1) := by
  unfold un1
  rw [e1]
  dsimp only
  rw [g1]
  dsimp only
  rw [q]
/-- a call that lends nothing -/
theorem call_of {f : String} {as : List Ag} {ρ ρ1 : Ro} {hs : List (Hd × Md)} {ds : List D} {d : D} {w : Bool} (e1 : evAs Γ as ρ = some (hs, ρ1)) (e2 : agv ρ1 hs = some ds) (e3 : Γ f ds = some (d, w, [])) (n : ioS hs = []) : ev Γ (.call f as) ρ = some (.d d w, ρ1) := by
  show ((evAs Γ as ρ).bind fun p => callG (Γ f) p.1 p.2) = _
  rw [e1]
  show callG (Γ f) hs ρ1 = _
  unfold callG
  rw [n]
  simp only [nodupN, disj, List.all_nil, Bool.and_self, if_true, e2]
  show ((Γ f ds).bind _) = _
  rw [e3]
  rfl
theorem evB_run {c : Ex} {ρ ρ1 : Ro} {h : Hd} {b : Bool} (e : ev Γ c ρ = some (h, ρ1)) (g : h.get ρ1 = some (.bool b)) : evB Γ c ρ = some (b, ρ1) := by
  unfold evB boolH
  rw [e]
  dsimp only
  rw [g]
theorem and_t {a b : Ex} {ρ ρ1 ρ2 : Ro} {h1 h2 : Hd} {k : Bool} (e1 : ev Γ a ρ = some (h1, ρ1)) (g1 : h1.get ρ1 = some (.bool true)) (e2 : ev Γ b ρ1 = some (h2, ρ2)) (g2 : h2.get ρ2 = some (.bool k)) : ev Γ (.and_ a b) ρ = some (.d (.bool k) false, ρ2) := by
  show ((ev Γ a ρ).bind _) = _
  rw [e1]
  show (match h1.get ρ1 with | some (.bool true) => (ev Γ b ρ1).bind fun p => (match p.1.get p.2 with | some (.bool r) => some (Hd.d (.bool r) false, p.2) | _ => none) | some (.bool false) => some (Hd.d (.bool false) false, ρ1) | _ => none) = _
  rw [g1]
  dsimp only
  rw [e2]
  show (match h2.get ρ2 with | some (.bool r) => some (Hd.d (.bool r) false, ρ2) | _ => none) = _
  rw [g2]
theorem and_f {a b : Ex} {ρ ρ1 : Ro} {h1 : Hd} (e1 : ev Γ a ρ = some (h1, ρ1)) (g1 : h1.get ρ1 = some (.bool false)) : ev Γ (.and_ a b) ρ = some (.d (.bool false) false, ρ1) := by
  show ((ev Γ a ρ).bind _) = _
  rw [e1]
  show (match h1.get ρ1 with | some (.bool true) => (ev Γ b ρ1).bind fun p => (match p.1.get p.2 with | some (.bool r) => some (Hd.d (.bool r) false, p.2) | _ => none) | some (.bool false) => some (Hd.d (.bool false) false, ρ1) | _ => none) = _
  rw [g1]
theorem or_f {a b : Ex} {ρ ρ1 ρ2 : Ro} {h1 h2 : Hd} {k : Bool} (e1 : ev Γ a ρ = some (h1, ρ1)) (g1 : h1.get ρ1 = some (.bool false)) (e2 : ev Γ b ρ1 = some (h2, ρ2)) (g2 : h2.get ρ2 = some (.bool k)) : ev Γ (.or_ a b) ρ = some (.d (.bool k) false, ρ2) := by
  show ((ev Γ a ρ).bind _) = _
  rw [e1]
  show (match h1.get ρ1 with | some (.bool false) => (ev Γ b ρ1).bind fun p => (match p.1.get p.2 with | some (.bool r) => some (Hd.d (.bool r) false, p.2) | _ => none) | some (.bool true) => some (Hd.d (.bool true) false, ρ1) | _ => none) = _
  rw [g1]
  dsimp only
  rw [e2]
  show (match h2.get ρ2 with | some (.bool r) => some (Hd.d (.bool r) false, ρ2) | _ => none) = _
  rw [g2]
theorem or_t {a b : Ex} {ρ ρ1 : Ro} {h1 : Hd} (e1 : ev Γ a ρ = some (h1, ρ1)) (g1 : h1.get ρ1 = some (.bool true)) : ev Γ (.or_ a b) ρ = some (.d (.bool true) false, ρ1) := by
  show ((ev Γ a ρ).bind _) = _
  rw [e1]
  show (match h1.get ρ1 with | some (.bool false) => (ev Γ b ρ1).bind fun p => (match p.1.get p.2 with | some (.bool r) => some (Hd.d (.bool r) false, p.2) | _ => none) | some (.bool true) => some (Hd.d (.bool true) false, ρ1) | _ => none) = _
  rw [g1]
theorem chn_of {c1 c2 : Cm} {a b c : Ex} {ρ ρ1 ρ2 ρ3 : Ro} {h1 h2 h3 : Hd} {x y z y' : D} {t : Bool} (e1 : ev Γ a ρ = some (h1, ρ1)) (e2 : ev Γ b ρ1 = some (h2, ρ2)) (g1 : h1.get ρ2 = some x) (g2 : h2.get ρ2 = some y) (q1 : cmpD c1 x y = some true) (e3 : ev Γ c ρ2 = some (h3, ρ3)) (g3 : h3.get ρ3 = some z) (g4 : h2.get ρ3 = some y') (q2 : cmpD c2 y' z = some t) : ev Γ (.chn c1 c2 a b c) ρ = some (.d (.bool t) false, ρ3) := by
  show ((ev Γ a ρ).bind _) = _
  rw [e1]
  show ((ev Γ b ρ1).bind _) = _
  rw [e2]
  show ((h1.get ρ2).bind fun x => (h2.get ρ2).bind fun y => (cmpD c1 x y).bind fun r => if r = true then (ev Γ c ρ2).bind fun p => (p.1.get p.2).bind fun z => (h2.get p.2).bind fun y' => (cmpD c2 y' z).bind fun r' => some (Hd.d (.bool r') false, p.2) else some (Hd.d (.bool false) false, ρ2)) = _
  rw [g1, g2]
  show ((cmpD c1 x y).bind _) = _
  rw [q1]
  show ((ev Γ c ρ2).bind _) = _
  rw [e3]
  show ((h3.get ρ3).bind _) = _
  rw [g3]
  show ((h2.get ρ3).bind _) = _
  rw [g4]
  show ((cmpD c2 y' z).bind _) = _
  rw [q2]
  rfl
theorem cmp_of {c : Cm} {a b : Ex} {ρ ρ1 ρ2 : Ro} {h1 h2 : Hd} {x y : D} {t : Bool} (e1 : ev Γ a ρ = some (h1, ρ1)) (e2 : ev Γ b ρ1 = some (h2, ρ2)) (g1 : h1.get ρ2 = some x) (g2 : h2.get ρ2 = some y) (q : cmpD c x y = some t) : ev Γ (.cmp c a b) ρ = some (.d (.bool t) false, ρ2) :=
  bi_of (g := fun x y => bool1 (cmpD c x y)) e1 e2 g1 g2 (by rw [q]; rfl)
theorem ix_of {a b : Ex} {ρ ρ1 ρ2 : Ro} {h1 h2 : Hd} {x y d : D} (e1 : ev Γ a ρ = some (h1, ρ1)) (e2 : ev Γ b ρ1 = some (h2, ρ2)) (g1 : h1.get ρ2 = some x) (g2 : h2.get ρ2 = some y) (q : ixD x y = some d) : ev Γ (.ix a b) ρ = some (.d d false, ρ2) :=
  bi_of (g := fun x y => val1 (ixD x y)) e1 e2 g1 g2 (by rw [q]; rfl)
theorem asg_of {i : Nat} {e : Ex} {ρ ρ1 ρ2 : Ro} {h : Hd} {d : D} {w : Bool} (e1 : ev Γ e ρ = some (h, ρ1)) (e2 : esc ρ1 h = some (d, w, ρ2)) : sx Γ (.asg i e) ρ = some (.nx (ρ2.set i (ownS d w))) := by
  show ((ev Γ e ρ).bind _) = _
  rw [e1]
  show ((esc ρ1 h).bind _) = _
  rw [e2]
  rfl
theorem app_of {i : Nat} {e : Ex} {ρ ρ1 ρ2 : Ro} {h : Hd} {d c0 : D} {w : Bool} {ds : List D} {p0 put : D → Ro} (e0 : ρ.own i = some (c0, p0)) (l0 : isL c0 = true) (e1 : ev Γ e ρ = some (h, ρ1)) (e2 : esc ρ1 h = some (d, w, ρ2)) (e3 : ρ2.own i = some (.list ds, put)) (l : ds.length < line) : sx Γ (.app i e) ρ = some (.nx (put (.list (ds ++ [d])))) := by
  show ((ρ.own i).bind _) = _
  rw [e0]
  show (if isL c0 = true then (ev Γ e ρ).bind fun p => (esc p.2 p.1).bind fun q => (q.2.2.own i).bind fun r => (match r.1 with | .list ds => if ds.length < line then some (Oc.nx (r.2 (.list (ds ++ [q.1])))) else none | _ => none) else none) = _
  rw [if_pos l0, e1]
  show ((esc ρ1 h).bind _) = _
  rw [e2]
  show ((ρ2.own i).bind _) = _
  rw [e3]
  show (if ds.length < line then _ else none) = _
  rw [if_pos l]
theorem ex_of {e : Ex} {ρ ρ1 : Ro} {h : Hd} (e1 : ev Γ e ρ = some (h, ρ1)) : sx Γ (.ex e) ρ = some (.nx ρ1) := by
  show ((ev Γ e ρ).bind _) = _
  rw [e1]
  rfl
theorem ret_of {e : Ex} {ρ ρ1 : Ro} {d : D} {w : Bool} (e1 : ev Γ e ρ = some (.d d w, ρ1)) : sx Γ (.ret e) ρ = some (.rt d w ρ1) := by
  show ((ev Γ e ρ).bind _) = _
  rw [e1]
  rfl
theorem ltD_int (a b : Int) : ltD (.int a) (.int b) = some (decide (a < b)) := by
  have : ltD (.int a) (.int b) = some (PySem.W.dataLt (.int a) (.int b)) := rfl
  rw [this, PySem.W.dataLt_int]
theorem lt_int (a b : Int) : cmpD .lt (.int a) (.int b) = some (decide (a < b)) := ltD_int a b
theorem gt_int (a b : Int) : cmpD .gt (.int a) (.int b) = some (decide (b < a)) := ltD_int b a
theorem le_in (a b : Int) : cmpD .le (.int a) (.int b) = some (decide (a ≤ b)) := by
  have : cmpD .le (.int a) (.int b) = (ltD (.int b) (.int a)).map (!·) := rfl
  rw [this, ltD_int, Option.map_some]
  congr 1
  rw [Bool.eq_iff_iff]
  simp
theorem ge_int (a b : Int) : cmpD .ge (.int a) (.int b) = some (decide (b ≤ a)) := by
  have : cmpD .ge (.int a) (.int b) = (ltD (.int a) (.int b)).map (!·) := rfl
  rw [this, ltD_int, Option.map_some]
  congr 1
  rw [Bool.eq_iff_iff]
  simp
theorem eq_int (a b : Int) : cmpD .eq (.int a) (.int b) = some (a == b) := rfl
theorem ne_int (a b : Int) : cmpD .ne (.int a) (.int b) = some (!(a == b)) := rfl
/-- a def that lends nothing -/
theorem runDf_of {F : Df} {ds : List D} {r : Ro} {d : D} {w : Bool} (e1 : argS F.md ds = some r) (h : Run Γ F.body (r ++ List.replicate (F.n - F.md.length) .un) fun o => (∃ ρ, o = .rt d w ρ) ∨ (∃ ρ, o = .nx ρ ∧ d = .none ∧ w = false)) (n : ∀ ρ, iosOf 0 F.md ρ = some []) : runDf Γ F ds = some (d, w, []) := by
  obtain ⟨o, e2, p⟩ := h
  show ((argS F.md ds).bind fun r => (sxs Γ F.body (r ++ List.replicate (F.n - F.md.length) .un)).bind _) = _
  rw [e1]
  show ((sxs Γ F.body (r ++ List.replicate (F.n - F.md.length) .un)).bind _) = _
  rw [e2]
  rcases p with ⟨ρ, rfl⟩ | ⟨ρ, rfl, rfl, rfl⟩
  · show ((iosOf 0 F.md ρ).bind _) = _
    rw [n]; rfl
  · show ((iosOf 0 F.md ρ).bind _) = _
    rw [n]; rfl
theorem rng_up {lo hi : Int} (h1 : lo.natAbs < 2 ^ 60) (h2 : hi.natAbs < 2 ^ 60) : rngL lo hi 1 = some ((List.range (hi - lo).toNat).map fun (i : Nat) => PyData.int (lo + (i : Int))) := by
  unfold rngL
  rw [if_pos (by simp [h1, h2]), if_pos rfl]
theorem rng_dn {lo hi : Int} (h1 : lo.natAbs < 2 ^ 60) (h2 : hi.natAbs < 2 ^ 60) : rngL lo hi (-1) = some ((List.range (lo - hi).toNat).map fun (i : Nat) => PyData.int (lo - (i : Int))) := by
  unfold rngL
  rw [if_pos (by simp [h1, h2]), if_neg (by decide), if_pos rfl]
theorem evI_rng1 {a : Ex} {ρ ρ1 : Ro} {i : Int} (e : evs Γ [a] ρ = some ([.int i], ρ1)) (h : i.natAbs < 2 ^ 60) : evI Γ (.rng [a]) ρ = some ((List.range i.toNat).map fun (k : Nat) => PyData.int (k : Int), ρ1) := by
  show ((evs Γ [a] ρ).bind fun p => (rngD p.1).bind fun r => some (r, p.2)) = _
  rw [e]
  show ((rngL 0 i 1).bind fun r => some (r, ρ1)) = _
  rw [rng_up (by decide) h, Int.sub_zero]
  simp
theorem evI_rng2 {a b : Ex} {ρ ρ1 : Ro} {i j : Int} (e : evs Γ [a, b] ρ = some ([.int i, .int j], ρ1)) (h1 : i.natAbs < 2 ^ 60) (h2 : j.natAbs < 2 ^ 60) : evI Γ (.rng [a, b]) ρ = some ((List.range (j - i).toNat).map fun (k : Nat) => PyData.int (i + (k : Int)), ρ1) := by
  show ((evs Γ [a, b] ρ).bind fun p => (rngD p.1).bind fun r => some (r, p.2)) = _
  rw [e]
  show ((rngL i j 1).bind fun r => some (r, ρ1)) = _
  rw [rng_up h1 h2]
  rfl
theorem evI_rng3 {a b c : Ex} {ρ ρ1 : Ro} {i j : Int} (e : evs Γ [a, b, c] ρ = some ([.int i, .int j, .int (-1)], ρ1)) (h1 : i.natAbs < 2 ^ 60) (h2 : j.natAbs < 2 ^ 60) : evI Γ (.rng [a, b, c]) ρ = some ((List.range (i - j).toNat).map fun (k : Nat) => PyData.int (i - (k : Int)), ρ1) := by
  show ((evs Γ [a, b, c] ρ).bind fun p => (rngD p.1).bind fun r => some (r, p.2)) = _
  rw [e]
  show ((rngL i j (-1)).bind fun r => some (r, ρ1)) = _
  rw [rng_dn h1 h2]
  rfl
/-- one turn of a comprehension -/
def turnP (Γ : Gam) (elt : Ex) (tg : Tg) (c : Ex) (d : D) (r : Ro) : Option (Option D × Ro) :=
  (bindT (wipeR r tg.slots) tg d).bind fun r1 => (boolH (ev Γ c r1)).bind fun p => if p.1 then (ev Γ elt p.2).bind fun q => (esc q.2 q.1).bind fun w => some (some w.1, w.2.2) else some (none, p.2)
def consO : Option D → List D → List D
  | some x, xs => x :: xs
  | none, xs => xs
theorem cmpL_cons {f : D → Ro → Option (Option D × Ro)} {d : D} {ds : List D} {r r1 r2 : Ro} {o : Option D} {xs : List D} (h1 : f d r = some (o, r1)) (h2 : cmpL f ds r1 = some (xs, r2)) : cmpL f (d :: ds) r = some (consO o xs, r2) := by
  show ((f d r).bind _) = _
  rw [h1]
  show ((cmpL f ds r1).bind _) = _
  rw [h2]
  cases o <;> rfl
/-- a comprehension -/
theorem comp_of {elt c : Ex} {tg : Tg} {it : It} {ρ ρ1 : Ro} {ds xs : List D} (e : evI Γ it ρ = some (ds, ρ1)) (fr : (tg.slots.all fun i => (ρ1.at i).free && decide (i < ρ1.length)) = true) (inv : Ro → Prop) (h0 : inv ρ1) (p : D → Option D)
    (st : ∀ d ∈ ds, ∀ r, inv r → ∃ r1 b r2, bindT (wipeR r tg.slots) tg d = some r1 ∧ evB Γ c r1 = some (b, r2) ∧ ((b = false ∧ p d = none ∧ inv r2) ∨ (b = true ∧ ∃ h r3 x w r4, ev Γ elt r2 = some (h, r3) ∧ esc r3 h = some (x, w, r4) ∧ p d = some x ∧ inv r4)))
    (hx : ds.filterMap p = xs) (hl : xs.length ≤ line) : ∃ ρ2, inv ρ2 ∧ ev Γ (.comp elt tg it c) ρ = some (.d (.list xs) true, backR ρ1 ρ2 tg.slots) := by
  have go : ∀ (ds' : List D) (r : Ro), (∀ d ∈ ds', d ∈ ds) → inv r → ∃ ρ2, inv ρ2 ∧ cmpL (turnP Γ elt tg c) ds' r = some (ds'.filterMap p, ρ2) := by
    intro ds'
    induction ds' with
    | nil => intro r _ h; exact ⟨r, h, rfl⟩
    | cons d ds' ih =>
      intro r hm h
      obtain ⟨r1, b, r2, e1, e2, q⟩ := st d (hm d (List.mem_cons_self ..)) r h
      rcases q with ⟨rfl, q, hi⟩ | ⟨rfl, hh, r3, x, w, r4, e3, e4, q, hi⟩
      · obtain ⟨ρ2, hi2, e5⟩ := ih r2 (fun d hd => hm d (List.mem_cons_of_mem _ hd)) hi
        have et : turnP Γ elt tg c d r = some (none, r2) := by
          unfold turnP
          rw [e1]
          show ((boolH (ev Γ c r1)).bind _) = _
          rw [show boolH (ev Γ c r1) = some (false, r2) from e2]
          rfl
        refine ⟨ρ2, hi2, ?_⟩
        rw [cmpL_cons et e5, List.filterMap_cons, q]; rfl
      · obtain ⟨ρ2, hi2, e5⟩ := ih r4 (fun d hd => hm d (List.mem_cons_of_mem _ hd)) hi
        have et : turnP Γ elt tg c d r = some (some x, r4) := by
          unfold turnP
          rw [e1]
          show ((boolH (ev Γ c r1)).bind _) = _
          rw [show boolH (ev Γ c r1) = some (true, r2) from e2]
          show ((ev Γ elt r2).bind _) = _
          rw [e3]
          show ((esc r3 hh).bind _) = _
          rw [e4]
          rfl
        refine ⟨ρ2, hi2, ?_⟩
        rw [cmpL_cons et e5, List.filterMap_cons, q]; rfl
  obtain ⟨ρ2, hi, e2⟩ := go ds ρ1 (fun d h => h) h0
  refine ⟨ρ2, hi, ?_⟩
  show ((evI Γ it ρ).bind _) = _
  rw [e]
  show (if (tg.slots.all fun i => (ρ1.at i).free && decide (i < ρ1.length)) = true then (cmpL (turnP Γ elt tg c) ds ρ1).bind (fun p => if p.1.length ≤ line then some (Hd.d (.list p.1) true, backR ρ1 p.2 tg.slots) else none) else none) = _
  rw [if_pos fr, e2]
  show (if (ds.filterMap p).length ≤ line then _ else none) = _
  rw [hx, if_pos hl]
end
end LT
end
section
set_option linter.all false
set_option maxRecDepth 100000
/-! Symbolic running by simp. -/
namespace LT
open PySem
section
variable {Γ : Gam} {ρ ρ1 : Ro}
/-! slots -/
theorem rd_va (d : D) (r : Ro) : rd (.va d :: r) 0 = some d := rfl
theorem rd_ow (d : D) (r : Ro) : rd (.ow d :: r) 0 = some d := rfl
theorem rd_io (d : D) (r : Ro) : rd (.io d :: r) 0 = some d := rfl
theorem rd_bo (d : D) (r : Ro) : rd (.bo d :: r) 0 = some d := rfl
theorem rd_su (x : Sl) (r : Ro) (n : Nat) : rd (x :: r) (n + 1) = rd r n := rfl
theorem at_ze (x : Sl) (r : Ro) : Ro.at (x :: r) 0 = x := rfl
theorem at_su (x : Sl) (r : Ro) (n : Nat) : Ro.at (x :: r) (n + 1) = Ro.at r n := rfl
theorem own_io (d : D) (r : Ro) : Ro.own (.io d :: r) 0 = some (d, fun x => .io x :: r) := rfl
theorem own_ow (d : D) (r : Ro) : Ro.own (.ow d :: r) 0 = some (d, fun x => .ow x :: r) := rfl
theorem own_su (y : Sl) (r : Ro) (n : Nat) : Ro.own (y :: r) (n + 1) = (Ro.own r n).map fun p => (p.1, fun x => y :: p.2 x) := by
  have : Ro.at (y :: r) (n + 1) = Ro.at r n := rfl
  unfold Ro.own
  rw [this]
  cases Ro.at r n <;> rfl
theorem ownS_t (d : D) : ownS d true = .ow d := rfl
theorem ownS_f (d : D) : ownS d false = .va d := rfl
/-- how a slot's value goes elsewhere -/
def escS : Sl → Option (D × Sl)
  | .va d => some (d, .va d)
  | .ow d => some (d, .va d)
  | .bo d => if flat d then some (d, .bo d) else none
  | _ => none
theorem set_at : ∀ (ρ : Ro) (i : Nat) (x : Sl), ρ.at i = x → x ≠ .un → ρ.set i x = ρ
  | [], _, _, h, n => absurd h.symm n
  | a :: r, 0, x, h, _ => by rw [show a = x from h]; rfl
  | a :: r, i + 1, x, h, n => by rw [List.set_cons_succ, set_at r i x h n]
theorem esc_s (i : Nat) : esc ρ (.s i) = (escS (ρ.at i)).map fun p => (p.1, false, ρ.set i p.2) := by
  unfold esc escS
  dsimp only
  cases q : ρ.at i with
  | un => rfl
  | va d => dsimp only [Option.map]; rw [set_at ρ i _ q (fun z => by cases z)]
  | ow d => rfl
  | io d => rfl
  | bo d =>
    dsimp only
    cases flat d with
    | true => rw [if_pos rfl, if_pos rfl]; dsimp only [Option.map]; rw [set_at ρ i _ q (fun z => by cases z)]
    | false => rw [if_neg Bool.false_ne_true, if_neg Bool.false_ne_true]; rfl
theorem esc_d (x : D) (w : Bool) : esc ρ (.d x w) = some (x, w, ρ) := rfl
theorem escS_va (d : D) : escS (.va d) = some (d, .va d) := rfl
theorem escS_ow (d : D) : escS (.ow d) = some (d, .va d) := rfl
theorem escS_bo (d : D) : escS (.bo d) = if flat d = true then some (d, .bo d) else none := rfl
theorem flat_int (i : Int) : flat (.int i) = true := rfl
theorem flat_bool (i : Bool) : flat (.bool i) = true := rfl
theorem flat_tuple (l : List D) : flat (.tuple l) = true := rfl
theorem flat_str (l : Str) : flat (.str l) = true := rfl
theorem flat_none : flat .none = true := rfl
def wlkS : Sl → Option (D × Sl)
  | .va d => some (d, .va d)
  | .ow d => some (d, .va d)
  | .bo d => some (d, .bo d)
  | _ => none
theorem wlk_s (i : Nat) : wlk ρ (.s i) = (wlkS (ρ.at i)).map fun p => (p.1, ρ.set i p.2) := by
  unfold wlk wlkS
  dsimp only
  cases q : ρ.at i with
  | un => rfl
  | va d => dsimp only [Option.map]; rw [set_at ρ i _ q (fun z => by cases z)]
  | ow d => rfl
  | io d => rfl
  | bo d => dsimp only [Option.map]; rw [set_at ρ i _ q (fun z => by cases z)]
theorem wlk_d (x : D) (w : Bool) : wlk ρ (.d x w) = some (x, ρ) := rfl
theorem wlkS_va (d : D) : wlkS (.va d) = some (d, .va d) := rfl
theorem wlkS_ow (d : D) : wlkS (.ow d) = some (d, .va d) := rfl
theorem wlkS_bo (d : D) : wlkS (.bo d) = some (d, .bo d) := rfl
theorem get_d (x : D) (o : Bool) : (Hd.d x o).get ρ = some x := rfl
theorem get_s (i : Nat) : (Hd.s i).get ρ = rd ρ i := rfl
/-! operands -/
theorem un1_e (f : D → Option (D × Bool)) (h : Hd) : un1 f (some (h, ρ)) = (h.get ρ).bind fun x => (f x).map fun p => (.d p.1 p.2, ρ) := by
  unfold un1
  dsimp only
  cases h.get ρ with
  | none => rfl
  | some x => dsimp only [Option.bind]; cases f x <;> rfl
theorem bi1_e (f : D → D → Option (D × Bool)) (h : Hd) (g : Ro → Option (Hd × Ro)) : bi1 f (some (h, ρ)) g = (g ρ).bind fun q => (h.get q.2).bind fun x => (q.1.get q.2).bind fun y => (f x y).map fun p => (.d p.1 p.2, q.2) := by
  unfold bi1
  dsimp only
  cases g ρ with
  | none => rfl
  | some q =>
    obtain ⟨h2, ρ2⟩ := q
    dsimp only [Option.bind]
    cases h.get ρ2 <;> cases h2.get ρ2 <;> dsimp only
    rename_i x y
    cases f x y <;> rfl
theorem sl1_e (b1 b2 : Bool) (h : Hd) (g k : Ro → Option (Hd × Ro)) : sl1 b1 b2 (some (h, ρ)) g k = (g ρ).bind fun q => (q.1.get q.2).bind fun y => if okPart b1 y = true then (k q.2).bind fun r => (r.1.get r.2).bind fun z => (h.get r.2).bind fun x => if okPart b2 z = true then (slD x y z).map fun p => (.d p.1 p.2, r.2) else none else none := by
  unfold sl1
  dsimp only
  cases g ρ with
  | none => rfl
  | some q =>
    obtain ⟨h2, ρ2⟩ := q
    dsimp only [Option.bind]
    cases h2.get ρ2 with
    | none => rfl
    | some y =>
      dsimp only
      split
      · cases k ρ2 with
        | none => rfl
        | some r =>
          obtain ⟨h3, ρ3⟩ := r
          dsimp only
          cases h3.get ρ3 <;> cases h.get ρ3 <;> dsimp only
          split
          · rename_i z x _
            cases slD x y z <;> rfl
          · rfl
      · rfl
theorem okPart_i (i : Int) : okPart false (.int i) = true := rfl
theorem okPart_n : okPart true .none = true := rfl
theorem val1_e (d : D) : val1 (some d) = some (d, false) := rfl
theorem bool1_e (b : Bool) : bool1 (some b) = some (.bool b, false) := rfl
theorem intD_int (i : Int) : intD (.int i) = some (.int i) := rfl
theorem intD_bool (i : Bool) : intD (.bool i) = some (.int (if i then 1 else 0)) := rfl
theorem negD_int (i : Int) : negD (.int i) = some (.int (-i)) := rfl
theorem notD_bool (i : Bool) : notD (.bool i) = some !i := rfl
theorem absD_int (i : Int) : absD (.int i) = some (.int (if i < 0 then -i else i)) := rfl
theorem min2_int (i j : Int) : min2D (.int i) (.int j) = some (.int (min i j)) := by
  show some (PyData.int _) = _
  congr 2
  rw [Int.min_def]
  split <;> split <;> omega
theorem max2_int (i j : Int) : max2D (.int i) (.int j) = some (.int (max i j)) := by
  show some (PyData.int _) = _
  congr 2
  rw [Int.max_def]
  split <;> split <;> omega
def asB : D → Option Bool
  | .bool b => some b
  | _ => none
theorem asB_b (b : Bool) : asB (.bool b) = some b := rfl
theorem boolH_e (h : Hd) : boolH (some (h, ρ)) = (h.get ρ).bind fun d => (asB d).map fun b => (b, ρ) := by
  unfold boolH
  dsimp only
  cases h.get ρ with
  | none => rfl
  | some d => cases d <;> rfl
/-! expressions -/
theorem x_v (i : Nat) : ev Γ (.v i) ρ = (rd ρ i).map fun _ => (.s i, ρ) := by
  show (match ρ.at i with | .un => none | _ => some (Hd.s i, ρ)) = _
  unfold rd
  cases ρ.at i <;> rfl
theorem x_k (d : D) : ev Γ (.k d) ρ = some (.d d false, ρ) := rfl
theorem x_bin (o : O2) (a b : Ex) : ev Γ (.bin o a b) ρ = bi1 (bin2 o) (ev Γ a ρ) (ev Γ b) := rfl
theorem x_neg (a : Ex) : ev Γ (.neg a) ρ = un1 (fun x => val1 (negD x)) (ev Γ a ρ) := rfl
theorem x_cmp (c : Cm) (a b : Ex) : ev Γ (.cmp c a b) ρ = bi1 (fun x y => bool1 (cmpD c x y)) (ev Γ a ρ) (ev Γ b) := rfl
theorem x_chn (c1 c2 : Cm) (a b c : Ex) : ev Γ (.chn c1 c2 a b c) ρ = (ev Γ a ρ).bind fun p => (ev Γ b p.2).bind fun q => (p.1.get q.2).bind fun x => (q.1.get q.2).bind fun y => (cmpD c1 x y).bind fun r => if r = true then (ev Γ c q.2).bind fun s => (s.1.get s.2).bind fun z => (q.1.get s.2).bind fun y' => (cmpD c2 y' z).bind fun r' => some (.d (.bool r') false, s.2) else some (.d (.bool false) false, q.2) := rfl
theorem x_and (a b : Ex) : ev Γ (.and_ a b) ρ = (boolH (ev Γ a ρ)).bind fun p => if p.1 = true then (boolH (ev Γ b p.2)).map fun q => (.d (.bool q.1) false, q.2) else some (.d (.bool false) false, p.2) := by
  show ((ev Γ a ρ).bind _) = _
  cases ev Γ a ρ with
  | none => rfl
  | some p =>
    obtain ⟨h, ρ1⟩ := p
    rw [boolH_e]
    show (match h.get ρ1 with | some (.bool true) => (ev Γ b ρ1).bind fun p => (match p.1.get p.2 with | some (.bool r) => some (Hd.d (.bool r) false, p.2) | _ => none) | some (.bool false) => some (Hd.d (.bool false) false, ρ1) | _ => none) = _
    cases h.get ρ1 with
    | none => rfl
    | some d =>
      cases d with
      | bool v =>
        cases v with
        | false => rfl
        | true =>
          show ((ev Γ b ρ1).bind _) = (boolH (ev Γ b ρ1)).map _
          cases ev Γ b ρ1 with
          | none => rfl
          | some q =>
            obtain ⟨h2, ρ2⟩ := q
            rw [boolH_e]
            show (match h2.get ρ2 with | some (.bool r) => some (Hd.d (.bool r) false, ρ2) | _ => none) = _
            cases h2.get ρ2 with
            | none => rfl
            | some d => cases d <;> rfl
      | _ => rfl
theorem x_or (a b : Ex) : ev Γ (.or_ a b) ρ = (boolH (ev Γ a ρ)).bind fun p => if p.1 = true then some (.d (.bool true) false, p.2) else (boolH (ev Γ b p.2)).map fun q => (.d (.bool q.1) false, q.2) := by
  show ((ev Γ a ρ).bind _) = _
  cases ev Γ a ρ with
  | none => rfl
  | some p =>
    obtain ⟨h, ρ1⟩ := p
    rw [boolH_e]
    show (match h.get ρ1 with | some (.bool false) => (ev Γ b ρ1).bind fun p => (match p.1.get p.2 with | some (.bool r) => some (Hd.d (.bool r) false, p.2) | _ => none) | some (.bool true) => some (Hd.d (.bool true) false, ρ1) | _ => none) = _
    cases h.get ρ1 with
    | none => rfl
    | some d =>
      cases d with
      | bool v =>
        cases v with
        | true => rfl
        | false =>
          show ((ev Γ b ρ1).bind _) = (boolH (ev Γ b ρ1)).map _
          cases ev Γ b ρ1 with
          | none => rfl
          | some q =>
            obtain ⟨h2, ρ2⟩ := q
            rw [boolH_e]
            show (match h2.get ρ2 with | some (.bool r) => some (Hd.d (.bool r) false, ρ2) | _ => none) = _
            cases h2.get ρ2 with
            | none => rfl
            | some d => cases d <;> rfl
      | _ => rfl
theorem x_not (a : Ex) : ev Γ (.not_ a) ρ = un1 (fun x => bool1 (notD x)) (ev Γ a ρ) := rfl
theorem x_ite (c a b : Ex) : ev Γ (.ite c a b) ρ = (boolH (ev Γ c ρ)).bind fun p => if p.1 = true then (ev Γ a p.2).bind fun q => (esc q.2 q.1).map fun r => (.d r.1 r.2.1, r.2.2) else (ev Γ b p.2).bind fun q => (esc q.2 q.1).map fun r => (.d r.1 r.2.1, r.2.2) := by
  show ((ev Γ c ρ).bind _) = _
  cases ev Γ c ρ with
  | none => rfl
  | some p =>
    obtain ⟨h, ρ1⟩ := p
    rw [boolH_e]
    show (match h.get ρ1 with | some (.bool true) => (ev Γ a ρ1).bind fun q => (esc q.2 q.1).bind fun r => some (Hd.d r.1 r.2.1, r.2.2) | some (.bool false) => (ev Γ b ρ1).bind fun q => (esc q.2 q.1).bind fun r => some (Hd.d r.1 r.2.1, r.2.2) | _ => none) = _
    cases h.get ρ1 with
    | none => rfl
    | some d =>
      cases d with
      | bool v =>
        cases v with
        | true =>
          show ((ev Γ a ρ1).bind _) = ((ev Γ a ρ1).bind _)
          congr 1
          funext q
          cases esc q.2 q.1 <;> rfl
        | false =>
          show ((ev Γ b ρ1).bind _) = ((ev Γ b ρ1).bind _)
          congr 1
          funext q
          cases esc q.2 q.1 <;> rfl
      | _ => rfl
theorem x_tup (es : List Ex) : ev Γ (.tup es) ρ = (evs Γ es ρ).bind fun p => some (.d (.tuple p.1) false, p.2) := rfl
theorem x_lst (es : List Ex) : ev Γ (.lst es) ρ = (evs Γ es ρ).bind fun p => some (.d (.list p.1) true, p.2) := rfl
theorem x_dct0 : ev Γ .dct0 ρ = some (.d (.dict []) true, ρ) := rfl
theorem x_dct1 (a b : Ex) : ev Γ (.dct1 a b) ρ = (ev Γ a ρ).bind fun p => (esc p.2 p.1).bind fun x => (ev Γ b x.2.2).bind fun q => (esc q.2 q.1).bind fun y => if kGo [] x.1 = true then some (.d (.dict [(x.1, y.1)]) true, y.2.2) else none := rfl
theorem x_ix (a b : Ex) : ev Γ (.ix a b) ρ = bi1 (fun x y => val1 (ixD x y)) (ev Γ a ρ) (ev Γ b) := rfl
theorem x_slc (a b c : Ex) : ev Γ (.slc a b c) ρ = sl1 (isNoneK b) (isNoneK c) (ev Γ a ρ) (ev Γ b) (ev Γ c) := rfl
theorem x_rev (a : Ex) : ev Γ (.rev a) ρ = un1 revD (ev Γ a ρ) := rfl
theorem x_att (a : Ex) (f : Nat) : ev Γ (.att a f) ρ = un1 (fun x => val1 (attD x f)) (ev Γ a ρ) := rfl
theorem x_call (f : String) (as : List Ag) : ev Γ (.call f as) ρ = (evAs Γ as ρ).bind fun p => callG (Γ f) p.1 p.2 := rfl
theorem x_new (c : Int) (f : String) (as : List Ag) : ev Γ (.new c f as) ρ = (evAs Γ as ρ).bind fun p => if (ioS p.1).isEmpty = true then (agv p.2 p.1).bind fun ds => (match Γ f (objD c (cFlds c).length :: ds) with | some (.none, _, [d]) => some (Hd.d d true, p.2) | _ => none) else none := rfl
theorem x_len (a : Ex) : ev Γ (.len a) ρ = un1 (fun x => val1 (lenD x)) (ev Γ a ρ) := rfl
theorem x_int (a : Ex) : ev Γ (.int a) ρ = un1 (fun x => val1 (intD x)) (ev Γ a ρ) := rfl
theorem x_sum (a : Ex) : ev Γ (.sum a) ρ = un1 (fun x => val1 (sumD x)) (ev Γ a ρ) := rfl
theorem x_any (a : Ex) : ev Γ (.any a) ρ = un1 (fun x => bool1 (anyD x)) (ev Γ a ρ) := rfl
theorem x_all (a : Ex) : ev Γ (.all a) ρ = un1 (fun x => bool1 (allD x)) (ev Γ a ρ) := rfl
theorem x_min (a : Ex) : ev Γ (.min a) ρ = un1 (fun x => val1 (minD x)) (ev Γ a ρ) := rfl
theorem x_max (a : Ex) : ev Γ (.max a) ρ = un1 (fun x => val1 (maxD x)) (ev Γ a ρ) := rfl
theorem x_min2 (a b : Ex) : ev Γ (.min2 a b) ρ = bi1 (fun x y => val1 (min2D x y)) (ev Γ a ρ) (ev Γ b) := rfl
theorem x_max2 (a b : Ex) : ev Γ (.max2 a b) ρ = bi1 (fun x y => val1 (max2D x y)) (ev Γ a ρ) (ev Γ b) := rfl
theorem x_abs (a : Ex) : ev Γ (.abs a) ρ = un1 (fun x => val1 (absD x)) (ev Γ a ρ) := rfl
theorem x_str (a : Ex) : ev Γ (.str a) ρ = un1 (fun x => val1 (strD x)) (ev Γ a ρ) := rfl
theorem x_reqr (a b : Ex) : ev Γ (.reqr a b) ρ = bi1 (fun x y => bool1 (reqrD x y)) (ev Γ a ρ) (ev Γ b) := rfl
theorem x_isi (a : Ex) (t : Ty) : ev Γ (.isi a t) ρ = un1 (fun x => isiO x t) (ev Γ a ρ) := rfl
theorem x_idx (a b : Ex) : ev Γ (.idx a b) ρ = bi1 (fun x y => val1 (idxD x y)) (ev Γ a ρ) (ev Γ b) := rfl
theorem x_tupI (it : It) : ev Γ (.tupI it) ρ = (evI Γ it ρ).bind fun p => if p.1.length ≤ line then some (.d (.tuple p.1) false, p.2) else none := rfl
theorem x_lstI (it : It) : ev Γ (.lstI it) ρ = (evI Γ it ρ).bind fun p => if p.1.length ≤ line then some (.d (.list p.1) true, p.2) else none := rfl
theorem x_dctI (it : It) : ev Γ (.dctI it) ρ = (evI Γ it ρ).bind fun p => (pairs p.1).bind fun ps => (dAll [] ps).bind fun kvs => some (.d (.dict kvs) true, p.2) := rfl
theorem x_srt (it : It) : ev Γ (.srt it) ρ = (evI Γ it ρ).bind fun p => (srtD p.1).bind fun d => some (.d d true, p.2) := rfl
theorem x_srtS (it : It) : ev Γ (.srtS it) ρ = (evI Γ it ρ).bind fun p => if p.1.all keyable = true then (srtD (dedup p.1)).bind fun d => some (.d d true, p.2) else none := rfl
def sndK (k : D) : D := match k with | .tuple [_, x] => x | _ => .none
def srtKD (m : Nat) (ds : List D) : Option D := (ds.mapM (if m = 0 then keyLen else keySum)).bind fun ks => (srtD ks).bind fun d => match d with
  | .list ks' => some (.list (ks'.map sndK))
  | _ => none
theorem x_srtK (m : Nat) (it : It) : ev Γ (.srtK m it) ρ = (evI Γ it ρ).bind fun p => (srtKD m p.1).bind fun d => some (.d d true, p.2) := by
  show ((evI Γ it ρ).bind fun p => (p.1.mapM (if m = 0 then keyLen else keySum)).bind fun ks => (srtD ks).bind fun d => (match d with | .list ks' => some (Hd.d (.list (ks'.map sndK)) true, p.2) | _ => none)) = _
  congr 1
  funext p
  unfold srtKD
  cases (p.1.mapM (if m = 0 then keyLen else keySum)) with
  | none => rfl
  | some ks =>
    show ((srtD ks).bind _) = ((srtD ks).bind _).bind _
    cases srtD ks with
    | none => rfl
    | some d => cases d <;> rfl
theorem x_lenS (it : It) : ev Γ (.lenS it) ρ = (evI Γ it ρ).bind fun p => if p.1.all keyable = true then some (.d (.int (dedup p.1).length) false, p.2) else none := rfl
theorem x_get (a k d : Ex) : ev Γ (.get a k d) ρ = (ev Γ a ρ).bind fun p => (ev Γ k p.2).bind fun q => (ev Γ d q.2).bind fun r => (esc r.2 r.1).bind fun z => (p.1.get z.2.2).bind fun x => (q.1.get z.2.2).bind fun y => (match x with
    | .dict kvs => if isObj kvs then none else if kGo kvs y then some (Hd.d ((dGet kvs y).getD z.1) false, z.2.2) else none
    | _ => none) := rfl
theorem evs_nil : evs Γ [] ρ = some ([], ρ) := rfl
theorem evs_cons (e : Ex) (es : List Ex) : evs Γ (e :: es) ρ = (ev Γ e ρ).bind fun p => (esc p.2 p.1).bind fun q => (evs Γ es q.2.2).bind fun r => some (q.1 :: r.1, r.2) := rfl
theorem evAs_nil : evAs Γ [] ρ = some ([], ρ) := rfl
theorem evAs_a (e : Ex) (gs : List Ag) : evAs Γ (.a e :: gs) ρ = (ev Γ e ρ).bind fun p => (esc p.2 p.1).bind fun q => (evAs Γ gs q.2.2).bind fun r => some ((.d q.1 false, .a) :: r.1, r.2) := by
  show ((evA Γ (.a e) ρ).bind fun p => (evAs Γ gs p.2).bind fun r => some (p.1 :: r.1, r.2)) = _
  show (((ev Γ e ρ).bind fun p => (esc p.2 p.1).bind fun q => some ((Hd.d q.1 false, Md.a), q.2.2)).bind _) = _
  rw [Option.bind_assoc]
  congr 1
  funext p
  rw [Option.bind_assoc]
  rfl
theorem evAs_b (e : Ex) (gs : List Ag) : evAs Γ (.b e :: gs) ρ = (ev Γ e ρ).bind fun p => (evAs Γ gs p.2).bind fun r => some ((p.1, .b) :: r.1, r.2) := by
  show (((ev Γ e ρ).bind fun p => some ((p.1, Md.b), p.2)).bind fun p => (evAs Γ gs p.2).bind fun r => some (p.1 :: r.1, r.2)) = _
  rw [Option.bind_assoc]
  rfl
theorem evAs_io (i : Nat) (gs : List Ag) : evAs Γ (.io i :: gs) ρ = if (Ro.own ρ i).isSome = true then (evAs Γ gs ρ).bind fun r => some ((.s i, .io) :: r.1, r.2) else none := by
  show ((if (Ro.own ρ i).isSome = true then some ((Hd.s i, Md.io), ρ) else none).bind fun p => (evAs Γ gs p.2).bind fun r => some (p.1 :: r.1, r.2)) = _
  split <;> rfl
/-! calls -/
theorem callG_ok (g : List D → Option (D × Bool × List D)) (hs : List (Hd × Md)) (h : (nodupN (ioS hs) && disj (ioS hs) (boS hs)) = true) : callG g hs ρ = (agv ρ hs).bind fun ds => (g ds).bind fun r => (putIo ρ (ioS hs) r.2.2).bind fun ρ' => some (.d r.1 r.2.1, ρ') := by
  unfold callG
  rw [if_pos h]
  rfl
theorem agv_nil : agv ρ [] = some [] := rfl
theorem agv_co (p : Hd × Md) (r : List (Hd × Md)) : agv ρ (p :: r) = (arg1 ρ p.1 p.2).bind fun d => (agv ρ r).map fun ds => d :: ds := by
  show (match arg1 ρ p.1 p.2, agv ρ r with | some d, some ds => some (d :: ds) | _, _ => none) = _
  cases arg1 ρ p.1 p.2 <;> cases agv ρ r <;> rfl
theorem arg1_a (h : Hd) : arg1 ρ h .a = h.get ρ := rfl
theorem arg1_b (h : Hd) : arg1 ρ h .b = h.get ρ := rfl
theorem arg1_io (i : Nat) : arg1 ρ (.s i) .io = (ρ.own i).map (·.1) := by
  show (match ρ.at i with | .ow d | .io d => some d | _ => none) = _
  unfold Ro.own
  cases ρ.at i <;> rfl
theorem ioS_nil : ioS [] = [] := rfl
theorem ioS_io (i : Nat) (r : List (Hd × Md)) : ioS ((.s i, .io) :: r) = i :: ioS r := rfl
theorem ioS_a (h : Hd) (r : List (Hd × Md)) : ioS ((h, .a) :: r) = ioS r := by cases h <;> rfl
theorem ioS_b (h : Hd) (r : List (Hd × Md)) : ioS ((h, .b) :: r) = ioS r := by cases h <;> rfl
theorem boS_nil : boS [] = [] := rfl
theorem boS_io (h : Hd) (r : List (Hd × Md)) : boS ((h, .io) :: r) = boS r := by cases h <;> rfl
theorem boS_a (h : Hd) (r : List (Hd × Md)) : boS ((h, .a) :: r) = boS r := by cases h <;> rfl
theorem boS_bs (i : Nat) (r : List (Hd × Md)) : boS ((.s i, .b) :: r) = i :: boS r := rfl
theorem boS_bd (d : D) (w : Bool) (r : List (Hd × Md)) : boS ((.d d w, .b) :: r) = boS r := rfl
theorem putIo_nil : putIo ρ [] [] = some ρ := rfl
theorem putIo_cons (i : Nat) (is : List Nat) (d : D) (ds : List D) : putIo ρ (i :: is) (d :: ds) = (ρ.own i).bind fun p => putIo (p.2 d) is ds := by
  show (match ρ.at i with | .ow _ => putIo (ρ.set i (.ow d)) is ds | .io _ => putIo (ρ.set i (.io d)) is ds | _ => none) = _
  unfold Ro.own
  cases ρ.at i <;> rfl
/-! walks -/
theorem i_seq (e : Ex) : evI Γ (.seq e) ρ = (ev Γ e ρ).bind fun p => (wlk p.2 p.1).bind fun q => (items? q.1).bind fun ds => some (ds, q.2) := rfl
theorem i_sq (e : Ex) : evI Γ (.sq e) ρ = (ev Γ e ρ).bind fun p => (wlk p.2 p.1).bind fun q => (seq? q.1).bind fun ds => some (ds, q.2) := rfl
def lst? : D → Option (List D)
  | .list ds => some ds
  | _ => none
theorem i_lst (e : Ex) : evI Γ (.lst e) ρ = (ev Γ e ρ).bind fun p => (wlk p.2 p.1).bind fun q => (lst? q.1).bind fun ds => some (ds, q.2) := by
  show ((ev Γ e ρ).bind fun p => (wlk p.2 p.1).bind fun q => (match q.1 with | .list ds => some (ds, q.2) | _ => none)) = _
  congr 1
  funext p
  congr 1
  funext q
  cases q.1 <;> rfl
theorem i_rng (es : List Ex) : evI Γ (.rng es) ρ = (evs Γ es ρ).bind fun p => (rngD p.1).bind fun r => some (r, p.2) := rfl
theorem i_enum (e : Ex) : evI Γ (.enum e) ρ = (ev Γ e ρ).bind fun p => (wlk p.2 p.1).bind fun q => (seq? q.1).bind fun ds => some (enumL 0 ds, q.2) := rfl
theorem i_zip (a b : Ex) : evI Γ (.zip a b) ρ = (ev Γ a ρ).bind fun p => (wlk p.2 p.1).bind fun x => (ev Γ b x.2).bind fun q => (wlk q.2 q.1).bind fun y => (seq? x.1).bind fun ds => (seq? y.1).bind fun es => some (zipL ds es, y.2) := rfl
def dct? : D → Option (List (D × D))
  | .dict kvs => if isObj kvs then none else some kvs
  | _ => none
theorem i_items (e : Ex) : evI Γ (.items e) ρ = (ev Γ e ρ).bind fun p => (wlk p.2 p.1).bind fun q => (dct? q.1).bind fun kvs => some (kvs.map fun p => .tuple [p.1, p.2], q.2) := by
  show ((ev Γ e ρ).bind fun p => (wlk p.2 p.1).bind fun q => (match q.1 with | .dict kvs => if isObj kvs then none else some (kvs.map fun p => PyData.tuple [p.1, p.2], q.2) | _ => none)) = _
  congr 1
  funext p
  congr 1
  funext q
  cases q.1 <;> try rfl
  unfold dct?
  dsimp only
  split <;> rfl
theorem i_vals (e : Ex) : evI Γ (.vals e) ρ = (ev Γ e ρ).bind fun p => (wlk p.2 p.1).bind fun q => (dct? q.1).bind fun kvs => some (kvs.map (·.2), q.2) := by
  show ((ev Γ e ρ).bind fun p => (wlk p.2 p.1).bind fun q => (match q.1 with | .dict kvs => if isObj kvs then none else some (kvs.map (·.2), q.2) | _ => none)) = _
  congr 1
  funext p
  congr 1
  funext q
  cases q.1 <;> try rfl
  unfold dct?
  dsimp only
  split <;> rfl
def ent? : D → Option (List D)
  | .dict kvs => if isObj kvs then none else some (kvs.map fun p => .tuple [p.1, p.2])
  | .tuple ds => some ds
  | .list ds => some ds
  | _ => none
theorem i_ent (e : Ex) : evI Γ (.ent e) ρ = (ev Γ e ρ).bind fun p => (wlk p.2 p.1).bind fun q => (ent? q.1).bind fun ds => some (ds, q.2) := by
  show ((ev Γ e ρ).bind fun p => (wlk p.2 p.1).bind fun q => (match q.1 with | .dict kvs => if isObj kvs then none else some (kvs.map fun p => PyData.tuple [p.1, p.2], q.2) | .tuple ds => some (ds, q.2) | .list ds => some (ds, q.2) | _ => none)) = _
  congr 1
  funext p
  congr 1
  funext q
  cases q.1 <;> try rfl
  unfold ent?
  dsimp only
  split <;> rfl
theorem seq_t (l : List D) : seq? (.tuple l) = some l := rfl
theorem seq_l (l : List D) : seq? (.list l) = some l := rfl
theorem items_t (l : List D) : items? (.tuple l) = some l := rfl
theorem items_l (l : List D) : items? (.list l) = some l := rfl
theorem lst_l (l : List D) : lst? (.list l) = some l := rfl
theorem ent_t (l : List D) : ent? (.tuple l) = some l := rfl
theorem ent_l (l : List D) : ent? (.list l) = some l := rfl
/-! statements -/
def Bd {α : Type} (o : Option α) (k : α → Prop) : Prop := ∃ x, o = some x ∧ k x
theorem Bd_some {α : Type} (x : α) (k : α → Prop) : Bd (some x) k = k x := by
  refine propext ⟨fun ⟨y, e, h⟩ => ?_, fun h => ⟨x, rfl, h⟩⟩
  cases e
  exact h
theorem Bd_none {α : Type} (k : α → Prop) : Bd none k = False := by
  refine propext ⟨fun h => ?_, fun h => h.elim⟩
  obtain ⟨_, e, _⟩ := h
  cases e
theorem Bd_bind {α β : Type} (o : Option α) (f : α → Option β) (k : β → Prop) : Bd (o.bind f) k = Bd o fun x => Bd (f x) k := by
  cases o with
  | none => rw [Bd_none]; exact Bd_none k
  | some x => rw [Bd_some]; rfl
theorem Bd_map {α β : Type} (o : Option α) (f : α → β) (k : β → Prop) : Bd (o.map f) k = Bd o fun x => k (f x) := by
  cases o with
  | none => rw [Bd_none]; exact Bd_none k
  | some x => rw [Bd_some]; exact Bd_some _ _
theorem Bd_ite {α : Type} (c : Prop) [Decidable c] (a b : Option α) (k : α → Prop) : Bd (if c then a else b) k = ((c → Bd a k) ∧ (¬ c → Bd b k)) := by
  by_cases h : c <;> simp [h]
theorem Run_Bd (s : St) (ss : List St) (P : Oc → Prop) : Run Γ (s :: ss) ρ P = Bd (sx Γ s ρ) (Then Γ ss P) := by
  refine propext ⟨fun h => ?_, fun ⟨o, e, h⟩ => run_sub ⟨o, e, h⟩⟩
  obtain ⟨o, e, p⟩ := h
  rw [sxs_cons] at e
  cases q : sx Γ s ρ with
  | none => rw [q] at e; cases e
  | some o2 =>
    rw [q] at e
    refine ⟨o2, rfl, ?_⟩
    cases o2 with
    | nx ρ1 => exact ⟨o, e, p⟩
    | _ => cases e; exact p
theorem Run_nil (P : Oc → Prop) : Run Γ [] ρ P = P (.nx ρ) := propext ⟨fun ⟨_, e, p⟩ => by cases e; exact p, fun h => ⟨_, rfl, h⟩⟩
theorem Then_nx (ss : List St) (P : Oc → Prop) : Then Γ ss P (.nx ρ) = Run Γ ss ρ P := rfl
theorem Then_rt (ss : List St) (P : Oc → Prop) (d : D) (w : Bool) : Then Γ ss P (.rt d w ρ) = P (.rt d w ρ) := rfl
theorem Then_bk (ss : List St) (P : Oc → Prop) : Then Γ ss P (.bk ρ) = P (.bk ρ) := rfl
theorem Then_ct (ss : List St) (P : Oc → Prop) : Then Γ ss P (.ct ρ) = P (.ct ρ) := rfl
theorem Bd_sxs (ss : List St) (k : Oc → Prop) : Bd (sxs Γ ss ρ) k = Run Γ ss ρ k := rfl
def rtO (ρ : Ro) : Hd → Option Oc
  | .d x o => some (.rt x o ρ)
  | .s i => match ρ.at i with
    | .ow d => some (.rt d true (ρ.set i .un))
    | .va d => some (.rt d false ρ)
    | .bo d => if flat d then some (.rt d false ρ) else none
    | _ => none
def rtS : Sl → Option (D × Bool × Sl)
  | .ow d => some (d, true, .un)
  | .va d => some (d, false, .va d)
  | .bo d => if flat d then some (d, false, .bo d) else none
  | _ => none
theorem rtO_d (x : D) (o : Bool) : rtO ρ (.d x o) = some (.rt x o ρ) := rfl
theorem rtO_s (i : Nat) : rtO ρ (.s i) = (rtS (ρ.at i)).map fun p => .rt p.1 p.2.1 (ρ.set i p.2.2) := by
  unfold rtO rtS
  dsimp only
  cases q : ρ.at i with
  | un => rfl
  | va d => dsimp only [Option.map]; rw [set_at ρ i _ q (fun z => by cases z)]
  | ow d => rfl
  | io d => rfl
  | bo d =>
    dsimp only
    cases flat d with
    | true => rw [if_pos rfl, if_pos rfl]; dsimp only [Option.map]; rw [set_at ρ i _ q (fun z => by cases z)]
    | false => rw [if_neg Bool.false_ne_true, if_neg Bool.false_ne_true]; rfl
theorem rtS_ow (d : D) : rtS (.ow d) = some (d, true, .un) := rfl
theorem rtS_va (d : D) : rtS (.va d) = some (d, false, .va d) := rfl
theorem rtS_bo (d : D) : rtS (.bo d) = if flat d = true then some (d, false, .bo d) else none := rfl
theorem s_asg (i : Nat) (e : Ex) : sx Γ (.asg i e) ρ = (ev Γ e ρ).bind fun q => (esc q.2 q.1).bind fun r => some (.nx (r.2.2.set i (ownS r.1 r.2.1))) := rfl
theorem s_asgT (is : List Nat) (e : Ex) : sx Γ (.asgT is e) ρ = (ev Γ e ρ).bind fun q => (esc q.2 q.1).bind fun r => (bindT r.2.2 (.tp is) r.1).bind fun ρ3 => some (.nx ρ3) := by
  show ((ev Γ e ρ).bind fun q => (esc q.2 q.1).bind fun r => (match r.1 with | .tuple ds => (setAll r.2.2 is ds).bind fun ρ3 => some (Oc.nx ρ3) | _ => none)) = _
  congr 1
  funext p
  congr 1
  funext q
  cases q.1 <;> rfl
theorem s_par (is : List Nat) (es : List Ex) : sx Γ (.par is es) ρ = (evO Γ es ρ).bind fun p => (setO p.2 is p.1).bind fun ρ2 => some (.nx ρ2) := rfl
theorem evO_nil : evO Γ [] ρ = some ([], ρ) := rfl
theorem evO_cons (e : Ex) (es : List Ex) : evO Γ (e :: es) ρ = (ev Γ e ρ).bind fun p => (esc p.2 p.1).bind fun q => (evO Γ es q.2.2).bind fun r => some ((q.1, q.2.1) :: r.1, r.2) := rfl
theorem setO_nil : setO ρ [] [] = some ρ := rfl
theorem setO_cons (i : Nat) (is : List Nat) (d : D) (o : Bool) (ds : List (D × Bool)) : setO ρ (i :: is) ((d, o) :: ds) = setO (ρ.set i (ownS d o)) is ds := rfl
theorem setAll_nil : setAll ρ [] [] = some ρ := rfl
theorem setAll_cons (i : Nat) (is : List Nat) (d : D) (ds : List D) : setAll ρ (i :: is) (d :: ds) = if i < ρ.length then setAll (ρ.set i (.va d)) is ds else none := rfl
theorem bindT_nm (i : Nat) (d : D) : bindT ρ (.nm i) d = if i < ρ.length then some (ρ.set i (.va d)) else none := rfl
theorem bindT_tp (is : List Nat) (ds : List D) : bindT ρ (.tp is) (.tuple ds) = setAll ρ is ds := rfl
theorem s_ifs (c : Ex) (t e : List St) : sx Γ (.ifs c t e) ρ = (boolH (ev Γ c ρ)).bind fun q => if q.1 = true then sxs Γ t q.2 else sxs Γ e q.2 := rfl
theorem s_setI (i : Nat) (k e : Ex) : sx Γ (.setI i k e) ρ = (ev Γ e ρ).bind fun q => (esc q.2 q.1).bind fun r => (r.2.2.own i).bind fun _ => (ev Γ k r.2.2).bind fun q2 => (esc q2.2 q2.1).bind fun r2 => (r2.2.2.own i).bind fun o => (putD o.1 r2.1 r.1).bind fun c => some (.nx (o.2 c)) := rfl
theorem s_setA (i f : Nat) (e : Ex) : sx Γ (.setA i f e) ρ = (ev Γ e ρ).bind fun q => (esc q.2 q.1).bind fun r => (r.2.2.own i).bind fun o => (setD o.1 f r.1).bind fun c => some (.nx (o.2 c)) := rfl
theorem s_app (i : Nat) (e : Ex) : sx Γ (.app i e) ρ = (ρ.own i).bind fun p => if isL p.1 = true then (ev Γ e ρ).bind fun q => (esc q.2 q.1).bind fun r => (r.2.2.own i).bind fun o => (lst? o.1).bind fun ds => if ds.length < line then some (.nx (o.2 (.list (ds ++ [r.1])))) else none else none := by
  show ((ρ.own i).bind fun p => if isL p.1 = true then (ev Γ e ρ).bind fun q => (esc q.2 q.1).bind fun r => (r.2.2.own i).bind fun o => (match o.1 with | .list ds => if ds.length < line then some (Oc.nx (o.2 (.list (ds ++ [r.1])))) else none | _ => none) else none) = _
  congr 1
  funext p
  split
  · congr 1
    funext q
    congr 1
    funext r
    congr 1
    funext o
    cases o.1 <;> rfl
  · rfl
theorem s_ext (i : Nat) (e : Ex) : sx Γ (.ext i e) ρ = (ρ.own i).bind fun p => if isL p.1 = true then (ev Γ e ρ).bind fun q => (match q.1 with | .d (.list es) true => (q.2.own i).bind fun o => (match o.1 with | .list ds => if ds.length + es.length ≤ line then some (Oc.nx (o.2 (.list (ds ++ es)))) else none | _ => none) | _ => none) else none := rfl
theorem s_upd (i : Nat) (e : Ex) : sx Γ (.upd i e) ρ = (ρ.own i).bind fun p => if isDc p.1 = true then (ev Γ e ρ).bind fun q => (q.1.get q.2).bind fun x => (q.2.own i).bind fun o => (dct? o.1).bind fun kvs => (dct? x).bind fun more => (dAll kvs more).bind fun k => some (.nx (o.2 (.dict k))) else none := by
  show ((ρ.own i).bind fun p => if isDc p.1 = true then (ev Γ e ρ).bind fun q => (q.1.get q.2).bind fun x => (q.2.own i).bind fun o => (match o.1, x with | .dict kvs, .dict more => if (isObj kvs || isObj more) = true then none else (dAll kvs more).bind fun k => some (Oc.nx (o.2 (.dict k))) | _, _ => none) else none) = _
  congr 1
  funext p
  split
  · congr 1
    funext q
    congr 1
    funext x
    congr 1
    funext o
    cases o.1 <;> cases x <;> try rfl
    · rename_i kvs _
      show none = (dct? _).bind _
      unfold dct?
      dsimp only
      split <;> rfl
    · rename_i kvs _
      show none = (dct? _).bind _
      unfold dct?
      dsimp only
      split <;> rfl
    · rename_i kvs _
      show none = (dct? _).bind _
      unfold dct?
      dsimp only
      split <;> rfl
    · rename_i kvs _
      show none = (dct? _).bind _
      unfold dct?
      dsimp only
      split <;> rfl
    · rename_i kvs _
      show none = (dct? _).bind _
      unfold dct?
      dsimp only
      split <;> rfl
    · rename_i kvs _
      show none = (dct? _).bind _
      unfold dct?
      dsimp only
      split <;> rfl
    · rename_i kvs more
      dsimp only [dct?]
      cases isObj kvs <;> cases isObj more <;> rfl
  · rfl
theorem s_ex (e : Ex) : sx Γ (.ex e) ρ = (ev Γ e ρ).bind fun p => some (.nx p.2) := rfl
theorem s_ret (e : Ex) : sx Γ (.ret e) ρ = (ev Γ e ρ).bind fun q => rtO q.2 q.1 := by
  show ((ev Γ e ρ).bind fun q => _) = _
  rfl
theorem s_ret0 : sx Γ .ret0 ρ = some (.rt .none false ρ) := rfl
theorem s_brk : sx Γ .brk ρ = some (.bk ρ) := rfl
theorem s_cnt : sx Γ .cnt ρ = some (.ct ρ) := rfl
theorem s_pas : sx Γ .pas ρ = some (.nx ρ) := rfl
theorem isL_l (l : List D) : isL (.list l) = true := rfl
/-! numbers -/


end
end LT
end
section
set_option linter.all false
set_option maxRecDepth 100000
/-! Data with a Lean type: lists are tuples; numbers, pairs, leaps. -/
namespace LT
open PySem
class Cd (α : Type) where
  cd : α → D
open Cd
class CdK (α : Type) [DecidableEq α] extends Cd α where
  dep : Nat
  plain : ∀ a : α, (cd a).plain = true
  depth : ∀ a : α, (cd a).depth ≤ dep
  eqv : ∀ a b : α, PyData.eqv (cd a) (cd b) = decide (a = b)
  key : ∀ a : α, keyable (cd a) = true
class CdO (α : Type) [DecidableEq α] extends CdK α where
  lt : α → α → Bool
  alike : ∀ a b : α, PySem.W.alike (cd a) (cd b) = true
  lt_eq : ∀ a b : α, PySem.W.dataLt (cd a) (cd b) = lt a b
  notN : ∀ a : α, cd a ≠ .none
instance iNat : CdO Nat where
  cd n := .int n
  dep := 0
  plain _ := rfl
  depth _ := Nat.le_refl _
  eqv a b := by
    show ((a : Int) == (b : Int)) = _
    rw [Bool.eq_iff_iff]; simp; omega
  key _ := rfl
  lt a b := decide (a < b)
  alike _ _ := rfl
  lt_eq a b := by rw [PySem.W.dataLt_int, Bool.eq_iff_iff]; simp
  notN _ h := by cases h
instance iInt : CdO Int where
  cd n := .int n
  dep := 0
  plain _ := rfl
  depth _ := Nat.le_refl _
  eqv a b := by
    show (a == b) = _
    rw [Bool.eq_iff_iff]; simp
  key _ := rfl
  lt a b := decide (a < b)
  alike _ _ := rfl
  lt_eq a b := by rw [PySem.W.dataLt_int]
  notN _ h := by cases h
instance iBool : CdO Bool where
  cd n := .bool n
  dep := 0
  plain _ := rfl
  depth _ := Nat.le_refl _
  eqv a b := by
    show (a == b) = _
    rw [Bool.eq_iff_iff]; simp
  key _ := rfl
  lt a b := !a && b
  alike _ _ := rfl
  lt_eq a b := by
    refine (PySem.W.dataLt_bool a b).trans ?_
    cases a <;> cases b <;> rfl
  notN _ h := by cases h
section
variable {α β : Type} [DecidableEq α] [DecidableEq β]
theorem plainAll_cd [CdK α] : ∀ xs : List α, PyData.plainAll (xs.map cd) = true
  | [] => rfl
  | x :: xs => by rw [List.map_cons, PyData.plainAll, CdK.plain x, plainAll_cd xs]; rfl
theorem depthAll_cd [CdK α] : ∀ xs : List α, PyData.depthAll (xs.map cd) ≤ CdK.dep α
  | [] => Nat.zero_le _
  | x :: xs => by
    rw [List.map_cons, PyData.depthAll]
    exact Nat.max_le.mpr ⟨CdK.depth x, depthAll_cd xs⟩
theorem eqvAll_cd [CdK α] : ∀ xs ys : List α, PyData.eqvAll (xs.map cd) (ys.map cd) = decide (xs = ys)
  | [], [] => by simp only [List.map_nil, PyData.eqvAll, decide_true]
  | [], _ :: _ => by simp [PyData.eqvAll]
  | _ :: _, [] => by simp [PyData.eqvAll]
  | x :: xs, y :: ys => by
    rw [List.map_cons, List.map_cons, PyData.eqvAll, CdK.eqv x y, eqvAll_cd xs ys, ← Bool.decide_and]
    exact decide_eq_decide.mpr (by rw [List.cons.injEq])
theorem keyables_cd [CdK α] : ∀ xs : List α, keyables (xs.map cd) = true
  | [] => rfl
  | x :: xs => by rw [List.map_cons, keyables, CdK.key x, keyables_cd xs]; rfl
instance iList0 [Cd α] : Cd (List α) where
  cd xs := .tuple (xs.map cd)
instance iListK [CdK α] : CdK (List α) where
  dep := CdK.dep α + 1
  plain xs := plainAll_cd xs
  depth xs := by
    show PyData.depth (.tuple (xs.map cd)) ≤ _
    rw [PyData.depth]
    exact Nat.add_le_add_right (depthAll_cd xs) 1
  eqv xs ys := by
    show PyData.eqv (.tuple _) (.tuple _) = _
    rw [PyData.eqv]
    exact eqvAll_cd xs ys
  key xs := keyables_cd xs
/-- the first difference decides, else the shorter is the less -/
def ltL [CdO α] : List α → List α → Bool
  | [], [] => false
  | [], _ :: _ => true
  | _ :: _, [] => false
  | x :: xs, y :: ys => if x = y then ltL xs ys else CdO.lt x y
open PySem.W in
theorem alikeAll_cd [CdO α] : ∀ xs ys : List α, alikeAll (xs.map cd) (ys.map cd) = true
  | [], _ => by rw [List.map_nil, alikeAll]
  | _ :: _, [] => by rw [List.map_nil, List.map_cons, alikeAll]
  | x :: xs, y :: ys => by
    rw [List.map_cons, List.map_cons, alikeAll, CdO.alike x y, alikeAll_cd xs ys]
    rfl
open PySem.W PyProof.Rows in
theorem lexAll_cd [CdO α] : ∀ xs ys : List α, PyProof.Rows.lexLt itemOrd (keyToksAll (xs.map cd)) (keyToksAll (ys.map cd)) = ltL xs ys
  | [], [] => lex_irrefl _
  | [], y :: ys => by
    rw [List.map_nil, List.map_cons, toks_all_cons]
    simp only [keyToksAll]
    rw [lex_diff (O := itemOrd) (by simp)]
    rfl
  | x :: xs, [] => by
    rw [List.map_nil, List.map_cons, toks_all_cons]
    simp only [keyToksAll]
    rw [lex_diff (O := itemOrd) (by simp)]
    rfl
  | x :: xs, y :: ys => by
    rw [List.map_cons, List.map_cons, ltL]
    by_cases h : x = y
    · rw [if_pos h, dataLt_all_yes (CdO.alike x y) (by rw [CdK.eqv, decide_eq_true_eq]; exact h), lexAll_cd xs ys]
    · rw [if_neg h, dataLt_all_no (CdO.alike x y) (by rw [CdK.eqv, decide_eq_false_iff_not]; exact h)]
      exact CdO.lt_eq x y
instance iList [CdO α] : CdO (List α) where
  lt := ltL
  alike xs ys := by show PySem.W.alike (.tuple _) (.tuple _) = true; simp only [PySem.W.alike]; exact alikeAll_cd xs ys
  lt_eq xs ys := (PySem.W.dataLt_tuple _ _).trans (lexAll_cd xs ys)
  notN a := fun e => by cases e
instance iPair0 [Cd α] [Cd β] : Cd (α × β) where
  cd p := .tuple [cd p.1, cd p.2]
instance iPairK [CdK α] [CdK β] : CdK (α × β) where
  dep := max (CdK.dep α) (CdK.dep β) + 1
  plain p := by
    show (PyData.plain (cd p.1) && (PyData.plain (cd p.2) && true)) = true
    rw [CdK.plain, CdK.plain]; rfl
  depth p := by
    show PyData.depth (.tuple [cd p.1, cd p.2]) ≤ _
    rw [PyData.depth, PyData.depthAll, PyData.depthAll, PyData.depthAll]
    have h1 := CdK.depth p.1
    have h2 := CdK.depth p.2
    omega
  eqv p q := by
    show PyData.eqv (.tuple [cd p.1, cd p.2]) (.tuple [cd q.1, cd q.2]) = _
    rw [PyData.eqv, PyData.eqvAll, PyData.eqvAll, PyData.eqvAll, CdK.eqv, CdK.eqv, Bool.and_true, ← Bool.decide_and]
    exact decide_eq_decide.mpr Prod.ext_iff.symm
  key p := by
    show (keyable (cd p.1) && (keyable (cd p.2) && true)) = true
    rw [CdK.key, CdK.key]; rfl
open PySem.W PyProof.Rows in
instance iPair [CdO α] [CdO β] : CdO (α × β) where
  lt p q := if p.1 = q.1 then (if p.2 = q.2 then false else CdO.lt p.2 q.2) else CdO.lt p.1 q.1
  alike p q := by
    show PySem.W.alike (.tuple [_, _]) (.tuple [_, _]) = true
    simp only [PySem.W.alike, alikeAll, CdO.alike, Bool.and_self]
  notN a := fun e => by cases e
  lt_eq p q := by
    refine (dataLt_tuple _ _).trans ?_
    by_cases h : p.1 = q.1
    · rw [if_pos h, dataLt_all_yes (CdO.alike p.1 q.1) (by rw [CdK.eqv, decide_eq_true_eq]; exact h)]
      by_cases h2 : p.2 = q.2
      · rw [if_pos h2, dataLt_all_yes (CdO.alike p.2 q.2) (by rw [CdK.eqv, decide_eq_true_eq]; exact h2), lex_irrefl]
      · rw [if_neg h2, dataLt_all_no (CdO.alike p.2 q.2) (by rw [CdK.eqv, decide_eq_false_iff_not]; exact h2)]
        exact CdO.lt_eq p.2 q.2
    · rw [if_neg h, dataLt_all_no (CdO.alike p.1 q.1) (by rw [CdK.eqv, decide_eq_false_iff_not]; exact h)]
      exact CdO.lt_eq p.1 q.1
end
/-- a leap: three places -/
structure Lp where
  a : Nat
  b : Nat
  c : Nat
  deriving DecidableEq
def Lp.l (x : Lp) : List Nat := [x.a, x.b, x.c]
theorem Lp.inj {x y : Lp} : x.l = y.l ↔ x = y := by
  cases x; cases y; simp [Lp.l]
instance iLp : CdO Lp where
  cd x := .tuple [.int x.a, .int x.b, .int x.c]
  dep := 1
  plain _ := rfl
  depth x := CdK.depth x.l
  eqv x y := (CdK.eqv x.l y.l).trans (decide_eq_decide.mpr Lp.inj)
  key _ := rfl
  lt x y := ltL x.l y.l
  alike x y := CdO.alike x.l y.l
  lt_eq x y := CdO.lt_eq x.l y.l
  notN a := fun e => by cases e
/-! the order is one -/
section
variable {α : Type} [DecidableEq α] [CdO α]
open PySem.W PyProof.Rows
theorem lt_irr (a : α) : CdO.lt a a = false := by rw [← CdO.lt_eq]; exact lex_irrefl _
end
/-- a strict order of which any two that differ stand one way -/
class OrdOk (α : Type) [DecidableEq α] [CdO α] : Prop where
  trans : ∀ a b c : α, CdO.lt a b = true → CdO.lt b c = true → CdO.lt a c = true
  tri : ∀ a b : α, a ≠ b → CdO.lt a b = true ∨ CdO.lt b a = true
section
variable {α β : Type} [DecidableEq α] [DecidableEq β] [CdO α] [CdO β]
theorem lt_asym [OrdOk α] {a b : α} (h : CdO.lt a b = true) : CdO.lt b a = false := by
  cases q : CdO.lt b a with
  | false => rfl
  | true => rw [← lt_irr a, ← OrdOk.trans a b a h q]
theorem lt_ne {a b : α} (h : CdO.lt a b = true) : a ≠ b := fun e => by rw [e, lt_irr] at h; cases h
instance oNat : OrdOk Nat where
  trans a b c h1 h2 := by
    have h1 : a < b := of_decide_eq_true h1
    have h2 : b < c := of_decide_eq_true h2
    exact decide_eq_true (by omega : a < c)
  tri a b h := by
    rcases Nat.lt_or_gt_of_ne h with h | h
    · exact .inl (decide_eq_true h)
    · exact .inr (decide_eq_true h)
instance oInt : OrdOk Int where
  trans a b c h1 h2 := by
    have h1 : a < b := of_decide_eq_true h1
    have h2 : b < c := of_decide_eq_true h2
    exact decide_eq_true (by omega : a < c)
  tri a b h := by
    rcases Int.lt_or_gt_of_ne h with h | h
    · exact .inl (decide_eq_true h)
    · exact .inr (decide_eq_true h)
theorem ltL_trans [OrdOk α] : ∀ a b c : List α, ltL a b = true → ltL b c = true → ltL a c = true
  | [], [], _, h, _ => by simp [ltL] at h
  | [], _ :: _, [], _, h => by simp [ltL] at h
  | [], _ :: _, _ :: _, _, _ => by simp [ltL]
  | _ :: _, [], _, h, _ => by simp [ltL] at h
  | _ :: _, _ :: _, [], _, h => by simp [ltL] at h
  | x :: xs, y :: ys, z :: zs, h1, h2 => by
    rw [ltL] at h1 h2 ⊢
    by_cases e1 : x = y
    · subst e1
      rw [if_pos rfl] at h1
      by_cases e2 : x = z
      · rw [if_pos e2] at h2 ⊢; exact ltL_trans xs ys zs h1 h2
      · rw [if_neg e2] at h2 ⊢; exact h2
    · rw [if_neg e1] at h1
      by_cases e2 : y = z
      · subst e2; rw [if_neg e1]; exact h1
      · rw [if_neg e2] at h2
        have h3 := OrdOk.trans x y z h1 h2
        rw [if_neg (lt_ne h3)]; exact h3
theorem ltL_tri [OrdOk α] : ∀ a b : List α, a ≠ b → ltL a b = true ∨ ltL b a = true
  | [], [], h => absurd rfl h
  | [], _ :: _, _ => .inl (by simp [ltL])
  | _ :: _, [], _ => .inr (by simp [ltL])
  | x :: xs, y :: ys, h => by
    rw [ltL, ltL]
    by_cases e1 : x = y
    · subst e1
      rw [if_pos rfl, if_pos rfl]
      exact ltL_tri xs ys fun e => h (by rw [e])
    · rw [if_neg e1, if_neg (Ne.symm e1)]
      exact OrdOk.tri x y e1
instance oList [OrdOk α] : OrdOk (List α) := ⟨ltL_trans, ltL_tri⟩
theorem lt_pair (p q : α × β) : CdO.lt p q = if p.1 = q.1 then (if p.2 = q.2 then false else CdO.lt p.2 q.2) else CdO.lt p.1 q.1 := rfl
instance oPair [OrdOk α] [OrdOk β] : OrdOk (α × β) where
  trans p q r h1 h2 := by
    rw [lt_pair] at h1 h2 ⊢
    by_cases e1 : p.1 = q.1
    · rw [if_pos e1] at h1
      by_cases e2 : p.2 = q.2
      · rw [if_pos e2] at h1; cases h1
      · rw [if_neg e2] at h1
        by_cases e3 : q.1 = r.1
        · rw [if_pos e3] at h2
          by_cases e4 : q.2 = r.2
          · rw [if_pos e4] at h2; cases h2
          · rw [if_neg e4] at h2
            have h3 := OrdOk.trans _ _ _ h1 h2
            rw [if_pos (e1.trans e3), if_neg (lt_ne h3)]; exact h3
        · rw [if_neg e3] at h2
          rw [e1, if_neg e3]; exact h2
    · rw [if_neg e1] at h1
      by_cases e3 : q.1 = r.1
      · rw [← e3, if_neg e1]; exact h1
      · rw [if_neg e3] at h2
        have h3 := OrdOk.trans _ _ _ h1 h2
        rw [if_neg (lt_ne h3)]; exact h3
  tri p q h := by
    rw [lt_pair, lt_pair]
    by_cases e1 : p.1 = q.1
    · have e2 : p.2 ≠ q.2 := fun e2 => h (Prod.ext e1 e2)
      rw [if_pos e1, if_pos e1.symm, if_neg e2, if_neg (Ne.symm e2)]
      exact OrdOk.tri _ _ e2
    · rw [if_neg e1, if_neg (Ne.symm e1)]
      exact OrdOk.tri _ _ e1
instance oLp : OrdOk Lp where
  trans x y z h1 h2 := ltL_trans x.l y.l z.l h1 h2
  tri x y h := ltL_tri x.l y.l fun e => h (Lp.inj.1 e)
/-- less or equal -/
def leO (a b : α) : Bool := !CdO.lt b a
theorem leO_trans [OrdOk α] (a b c : α) (h1 : leO a b = true) (h2 : leO b c = true) : leO a c = true := by
  unfold leO at *
  rw [Bool.not_eq_true'] at *
  cases q : CdO.lt c a with
  | false => rfl
  | true =>
    by_cases e : a = b
    · subst e; rw [h2] at q; cases q
    · rcases OrdOk.tri a b e with h | h
      · have := OrdOk.trans c a b q h
        rw [this] at h2; cases h2
      · rw [h] at h1; cases h1
theorem leO_total [OrdOk α] (a b : α) : (leO a b || leO b a) = true := by
  unfold leO
  cases q : CdO.lt b a with
  | false => rfl
  | true => rw [lt_asym q]; rfl
theorem leO_anti [OrdOk α] {a b : α} (h1 : leO a b = true) (h2 : leO b a = true) : a = b := by
  unfold leO at *
  rw [Bool.not_eq_true'] at *
  by_cases e : a = b
  · exact e
  · rcases OrdOk.tri a b e with h | h
    · rw [h] at h2; cases h2
    · rw [h] at h1; cases h1
/-- sorted -/
def srt (l : List α) : List α := l.mergeSort leO
theorem srt_perm (l : List α) : (srt l).Perm l := List.mergeSort_perm ..
theorem mem_srt {l : List α} {a : α} : a ∈ srt l ↔ a ∈ l := (srt_perm l).mem_iff
theorem srt_len (l : List α) : (srt l).length = l.length := (srt_perm l).length_eq
theorem srt_pair [OrdOk α] (l : List α) : (srt l).Pairwise fun a b => leO a b = true := List.pairwise_mergeSort leO_trans leO_total l
theorem srt_eq [OrdOk α] {l m : List α} (h : m.Perm l) (p : m.Pairwise fun a b => leO a b = true) : srt l = m :=
  List.Perm.eq_of_pairwise (le := fun a b => leO a b = true) (fun a b _ _ h1 h2 => leO_anti h1 h2) (srt_pair l) p ((srt_perm l).trans h.symm)
theorem leO_of_lt [OrdOk α] {a b : α} (h : CdO.lt a b = true) : leO a b = true := by unfold leO; rw [lt_asym h]; rfl
theorem srt_up [OrdOk α] {l m : List α} (h : m.Perm l) (p : m.Pairwise fun a b => CdO.lt a b = true) : srt l = m := srt_eq h (p.imp leO_of_lt)
theorem srt_strict [OrdOk α] {l : List α} (h : l.Nodup) : (srt l).Pairwise fun a b => CdO.lt a b = true := by
  have h2 : (srt l).Nodup := (srt_perm l).nodup_iff.2 h
  refine ((srt_pair l).and h2).imp ?_
  intro a b ⟨h1, h2⟩
  rcases OrdOk.tri a b h2 with h | h
  · exact h
  · unfold leO at h1; rw [h] at h1; cases h1
theorem srt_congr [OrdOk α] {l m : List α} (h : l.Perm m) : srt l = srt m := srt_eq ((srt_perm m).trans h.symm) (srt_pair m)
theorem srt_self [OrdOk α] {l : List α} (p : l.Pairwise fun a b => CdO.lt a b = true) : srt l = l := srt_up (List.Perm.refl _) p
/-- two rising rows of the same members are one -/
theorem up_ext [OrdOk α] {l m : List α} (p : l.Pairwise fun a b => CdO.lt a b = true) (q : m.Pairwise fun a b => CdO.lt a b = true) (h : ∀ a, a ∈ l ↔ a ∈ m) : l = m := by
  have nd : ∀ {k : List α}, k.Pairwise (fun a b => CdO.lt a b = true) → k.Nodup := fun h => h.imp lt_ne
  have hp : l.Perm m := (List.perm_ext_iff_of_nodup (nd p) (nd q)).2 h
  rw [← srt_self p, ← srt_self q, srt_congr hp]
end
end LT
end
section
set_option linter.all false
set_option maxRecDepth 100000
/-! Primitives on typed data, loops, comprehensions, defs. -/
namespace LT
open PySem Cd
theorem line_n : line = 16777216 := rfl
/-! numbers -/
theorem cd_nat (n : Nat) : (cd n : D) = .int n := rfl
theorem cd_int (n : Int) : (cd n : D) = .int n := rfl
theorem cd_bool (n : Bool) : (cd n : D) = .bool n := rfl
theorem add_int (i j : Int) : bin2 .add (.int i) (.int j) = some (.int (i + j), false) := rfl
theorem sub_int (i j : Int) : bin2 .sub (.int i) (.int j) = some (.int (i - j), false) := rfl
theorem mod_int (i : Int) {j : Int} (h : 0 < j) : bin2 .mod (.int i) (.int j) = some (.int (i % j), false) := if_pos h
theorem fdiv_int (i : Int) {j : Int} (h : 0 < j) (h2 : j < 18446744073709551616) : bin2 .fdiv (.int i) (.int j) = some (.int (i / j), false) := if_pos ⟨h, Int.lt_of_lt_of_le h2 (by decide +kernel)⟩
theorem mulR_int (i : Int) {j : Int} (h1 : -9223372036854775808 < j) (h2 : j < 9223372036854775808) : bin2 .mul (.int i) (.int j) = some (.int (i * j), false) := if_pos (by unfold okMul; rw [decide_eq_true (show j.natAbs < 2 ^ 63 by omega), Bool.or_true, Bool.true_or])
theorem mulL_int {i : Int} (j : Int) (h1 : -9223372036854775808 < i) (h2 : i < 9223372036854775808) : bin2 .mul (.int i) (.int j) = some (.int (i * j), false) := if_pos (by unfold okMul; rw [decide_eq_true (show i.natAbs < 2 ^ 63 by omega), Bool.true_or, Bool.true_or])
theorem eqi_int (a b : Int) : cmpD .eq (.int a) (.int b) = some (decide (a = b)) := by
  rw [eq_int]; congr 1
theorem nei_int (a b : Int) : cmpD .ne (.int a) (.int b) = some (decide (a ≠ b)) := by
  rw [ne_int]; congr 1; rw [Bool.eq_iff_iff]; simp
/-! equal, within -/
section
variable {α β : Type} [DecidableEq α] [CdK α] [DecidableEq β]
theorem eqD_cd (a b : α) (h : CdK.dep α ≤ 60) : eqD (cd a) (cd b) = some (decide (a = b)) := by
  unfold eqD
  rw [if_pos, CdK.eqv]
  rw [CdK.plain, CdK.plain, decide_eq_true (Nat.le_trans (CdK.depth a) h), decide_eq_true (Nat.le_trans (CdK.depth b) h)]; rfl
theorem eq_cd (a b : α) (h : CdK.dep α ≤ 60) : cmpD .eq (cd a) (cd b) = some (decide (a = b)) := eqD_cd a b h
theorem ne_cd (a b : α) (h : CdK.dep α ≤ 60) : cmpD .ne (cd a) (cd b) = some (decide (a ≠ b)) := by
  show (eqD (cd a) (cd b)).map (!·) = _
  rw [eqD_cd a b h, Option.map_some]
  congr 1
  simp
theorem eqD_lst (a b : List α) (h : CdK.dep α ≤ 59) : eqD (.list (a.map cd)) (.list (b.map cd)) = some (decide (a = b)) := by
  have hd : ∀ l : List α, PyData.depth (.list (l.map cd)) ≤ 60 := fun l => by
    rw [PyData.depth]
    have := depthAll_cd l
    omega
  have hp : ∀ l : List α, PyData.plain (.list (l.map cd)) = true := fun l => plainAll_cd l
  unfold eqD
  rw [if_pos]
  · show some (PyData.eqv (.list _) (.list _)) = _
    rw [PyData.eqv, eqvAll_cd]
  · rw [hp, hp, decide_eq_true (hd a), decide_eq_true (hd b)]; rfl
theorem eq_lst (a b : List α) (h : CdK.dep α ≤ 59) : cmpD .eq (.list (a.map cd)) (.list (b.map cd)) = some (decide (a = b)) := eqD_lst a b h
theorem ne_lst (a b : List α) (h : CdK.dep α ≤ 59) : cmpD .ne (.list (a.map cd)) (.list (b.map cd)) = some (decide (a ≠ b)) := by
  show (eqD _ _).map (!·) = _
  rw [eqD_lst a b h, Option.map_some]
  congr 1
  simp
theorem eq_nil (a : List α) (h : CdK.dep α ≤ 59) : cmpD .eq (cd a) (.tuple []) = some (decide (a = [])) := eq_cd a [] (Nat.succ_le_succ h)
theorem ne_nil (a : List α) (h : CdK.dep α ≤ 59) : cmpD .ne (cd a) (.tuple []) = some (decide (a ≠ [])) := ne_cd a [] (Nat.succ_le_succ h)
theorem eq_nilL (a : List α) (h : CdK.dep α ≤ 59) : cmpD .eq (.list (a.map cd)) (.list []) = some (decide (a = [])) := eq_lst a [] h
theorem ne_nilL (a : List α) (h : CdK.dep α ≤ 59) : cmpD .ne (.list (a.map cd)) (.list []) = some (decide (a ≠ [])) := ne_lst a [] h
theorem inD_cd (a : α) (l : List α) (h : CdK.dep α ≤ 60) : inD (cd a) (cd l) = some (decide (a ∈ l)) := by
  have hd := depthAll_cd l
  show (if ((cd a).plain && PyData.plainAll (l.map cd) && decide ((cd a).depth ≤ 60) && decide (PyData.depthAll (l.map cd) ≤ 60)) = true then some ((l.map cd).any fun y => PyData.eqv y (cd a)) else none) = _
  rw [if_pos (by rw [CdK.plain, plainAll_cd, decide_eq_true (Nat.le_trans (CdK.depth a) h), decide_eq_true (Nat.le_trans hd h)]; rfl)]
  congr 1
  rw [Bool.eq_iff_iff, List.any_map, List.any_eq_true, decide_eq_true_eq]
  constructor
  · rintro ⟨x, hx, e⟩
    have e : PyData.eqv (cd x) (cd a) = true := e
    rw [CdK.eqv, decide_eq_true_eq] at e
    rw [← e]; exact hx
  · intro hx
    refine ⟨a, hx, ?_⟩
    show PyData.eqv (cd a) (cd a) = true
    rw [CdK.eqv]; simp
theorem inD_list (a : α) (l : List α) : inD (cd a) (.list (l.map cd)) = inD (cd a) (cd l) := rfl
theorem in_cd (a : α) (l : List α) (h : CdK.dep α ≤ 60) : cmpD .isin (cd a) (cd l) = some (decide (a ∈ l)) := inD_cd a l h
theorem ni_cd (a : α) (l : List α) (h : CdK.dep α ≤ 60) : cmpD .notin (cd a) (cd l) = some (decide (a ∉ l)) := by
  show (inD (cd a) (cd l)).map (!·) = _
  rw [inD_cd a l h, Option.map_some]
  congr 1
  simp
theorem in_lst (a : α) (l : List α) (h : CdK.dep α ≤ 60) : cmpD .isin (cd a) (.list (l.map cd)) = some (decide (a ∈ l)) := inD_cd a l h
theorem ni_lst (a : α) (l : List α) (h : CdK.dep α ≤ 60) : cmpD .notin (cd a) (.list (l.map cd)) = some (decide (a ∉ l)) := ni_cd a l h
end
theorem in_nat (n : Nat) (l : List Nat) : cmpD .isin (.int n) (cd l) = some (decide (n ∈ l)) := inD_cd n l (by decide)
theorem ni_nat (n : Nat) (l : List Nat) : cmpD .notin (.int n) (cd l) = some (decide (n ∉ l)) := ni_cd n l (by decide)
theorem in_nat1 (n : Nat) (l : List Nat) : cmpD .isin (.int (n + 1)) (cd l) = some (decide (n + 1 ∈ l)) := inD_cd (n + 1) l (by decide)
theorem ni_nat1 (n : Nat) (l : List Nat) : cmpD .notin (.int (n + 1)) (cd l) = some (decide (n + 1 ∉ l)) := ni_cd (n + 1) l (by decide)
theorem in_nat2 (n : Nat) (l : List Nat) : cmpD .isin (.int (n + 2)) (cd l) = some (decide (n + 2 ∈ l)) := inD_cd (n + 2) l (by decide)
theorem ni_nat2 (n : Nat) (l : List Nat) : cmpD .notin (.int (n + 2)) (cd l) = some (decide (n + 2 ∉ l)) := ni_cd (n + 2) l (by decide)
theorem in_natL (n : Nat) (l : List Nat) : cmpD .isin (.int n) (.list (l.map cd)) = some (decide (n ∈ l)) := inD_cd n l (by decide)
theorem ni_natL (n : Nat) (l : List Nat) : cmpD .notin (.int n) (.list (l.map cd)) = some (decide (n ∉ l)) := ni_cd n l (by decide)
/-- among literal numbers -/
theorem in_ints (i : Int) (l : List Int) : cmpD .isin (.int i) (.tuple (l.map .int)) = some (decide (i ∈ l)) := inD_cd i l (by decide)
theorem in_i1 (i a : Int) : cmpD .isin (.int i) (.tuple [.int a]) = some (decide (i = a)) := by
  rw [show PyData.tuple [.int a] = cd [a] from rfl, show PyData.int i = cd i from rfl, in_cd i [a] (by decide)]; simp
theorem ni_i1 (i a : Int) : cmpD .notin (.int i) (.tuple [.int a]) = some (decide (i ≠ a)) := by
  rw [show PyData.tuple [.int a] = cd [a] from rfl, show PyData.int i = cd i from rfl, ni_cd i [a] (by decide)]; simp
theorem in_i2 (i a b : Int) : cmpD .isin (.int i) (.tuple [.int a, .int b]) = some (decide (i = a ∨ i = b)) := by
  rw [show PyData.tuple [.int a, .int b] = cd [a, b] from rfl, show PyData.int i = cd i from rfl, in_cd i [a, b] (by decide)]; simp
theorem ni_i2 (i a b : Int) : cmpD .notin (.int i) (.tuple [.int a, .int b]) = some (decide (¬(i = a ∨ i = b))) := by
  rw [show PyData.tuple [.int a, .int b] = cd [a, b] from rfl, show PyData.int i = cd i from rfl, ni_cd i [a, b] (by decide)]; simp
theorem is_nn : cmpD .is_ .none .none = some true := rfl
theorem isn_nn : cmpD .isnot .none .none = some false := rfl
theorem is_bb (a b : Bool) : cmpD .is_ (.bool a) (.bool b) = some (a == b) := rfl
theorem isn_bb (a b : Bool) : cmpD .isnot (.bool a) (.bool b) = some (!(a == b)) := rfl
theorem is_in (a : Int) : cmpD .is_ (.int a) .none = some false := rfl
theorem isn_in (a : Int) : cmpD .isnot (.int a) .none = some true := rfl
theorem is_tn (a : List D) : cmpD .is_ (.tuple a) .none = some false := rfl
theorem isn_tn (a : List D) : cmpD .isnot (.tuple a) .none = some true := rfl
theorem isi_int_int (i : Int) : isiO (.int i) .int = some (.bool true, false) := rfl
theorem isi_int_bool (i : Int) : isiO (.int i) .bool = some (.bool false, false) := rfl
theorem isi_tup (l : List D) : isiO (.tuple l) .tuple = some (.bool true, false) := rfl
/-! places -/
theorem ixI_nat (n i : Nat) : ixI n i = if i < n then some i else none := by
  unfold ixI
  rw [if_pos (by omega), Int.toNat_natCast]
  by_cases h : i < n
  · rw [if_pos (by omega), if_pos h]
  · rw [if_neg (by omega), if_neg h]
section
variable {α β : Type} [Cd α] [Cd β]
theorem ixM_nat (l : List D) (i : Nat) : ((ixI l.length i).bind fun n => l[n]?) = l[i]? := by
  rw [ixI_nat]
  by_cases h : i < l.length
  · rw [if_pos h]; rfl
  · rw [if_neg h, List.getElem?_eq_none (by omega)]; rfl
theorem ixL_nat (l : List D) (i : Nat) : ixD (.list l) (.int i) = l[i]? := ixM_nat l i
theorem ixT_nat (l : List D) (i : Nat) : ixD (.tuple l) (.int i) = l[i]? := ixM_nat l i
theorem ix_nat (l : List α) (i : Nat) : ixD (cd l) (.int i) = (l[i]?).map cd := (ixM_nat (l.map cd) i).trans List.getElem?_map
theorem ix_natL (l : List α) (i : Nat) : ixD (.list (l.map cd)) (.int i) = (l[i]?).map cd := (ixM_nat (l.map cd) i).trans List.getElem?_map
theorem ix_0 (l : List α) : ixD (cd l) (.int 0) = (l[0]?).map cd := ix_nat l 0
theorem ix_1 (l : List α) : ixD (cd l) (.int 1) = (l[1]?).map cd := ix_nat l 1
theorem ix_0L (l : List α) : ixD (.list (l.map cd)) (.int 0) = (l[0]?).map cd := ix_natL l 0
theorem ix_1L (l : List α) : ixD (.list (l.map cd)) (.int 1) = (l[1]?).map cd := ix_natL l 1
theorem ixM_last (l : List D) : ((ixI l.length (-1)).bind fun n => l[n]?) = l.getLast? := by
  unfold ixI
  rw [if_neg (by decide)]
  cases l with
  | nil => rfl
  | cons x xs =>
    rw [if_pos (by simp; omega)]
    show (x :: xs)[_]? = _
    rw [List.getLast?_eq_getElem?]
    congr 1
    simp
    omega
theorem ix_last (l : List α) : ixD (cd l) (.int (-1)) = l.getLast?.map cd := (ixM_last (l.map cd)).trans List.getLast?_map
theorem ix_lastL (l : List α) : ixD (.list (l.map cd)) (.int (-1)) = l.getLast?.map cd := (ixM_last (l.map cd)).trans List.getLast?_map
theorem ix_pred (l : List α) (i : Nat) (h : 0 < i) : ixD (cd l) (.int (i - 1)) = (l[i - 1]?).map cd := by
  rw [show ((i : Int) - 1) = ((i - 1 : Nat) : Int) by omega, ix_nat]
theorem ix_p0 (a : α) (b : β) : ixD (cd (a, b)) (.int 0) = some (cd a) := rfl
theorem ix_p1 (a : α) (b : β) : ixD (cd (a, b)) (.int 1) = some (cd b) := rfl
theorem ix_pp0 (p : α × β) : ixD (cd p) (.int 0) = some (cd p.1) := rfl
theorem ix_pp1 (p : α × β) : ixD (cd p) (.int 1) = some (cd p.2) := rfl
theorem ix_l0 (x : Lp) : ixD (cd x) (.int 0) = some (.int x.a) := rfl
theorem ix_l1 (x : Lp) : ixD (cd x) (.int 1) = some (.int x.b) := rfl
theorem ix_l2 (x : Lp) : ixD (cd x) (.int 2) = some (.int x.c) := rfl
theorem ixT0 (a : D) (l : List D) : ixD (.tuple (a :: l)) (.int 0) = some a := ixT_nat _ 0
theorem ixT1 (a b : D) (l : List D) : ixD (.tuple (a :: b :: l)) (.int 1) = some b := ixT_nat _ 1
theorem ixT2 (a b c : D) (l : List D) : ixD (.tuple (a :: b :: c :: l)) (.int 2) = some c := ixT_nat _ 2
theorem ixL0 (a : D) (l : List D) : ixD (.list (a :: l)) (.int 0) = some a := ixL_nat _ 0
theorem ixL1 (a b : D) (l : List D) : ixD (.list (a :: b :: l)) (.int 1) = some b := ixL_nat _ 1
theorem len_cd (l : List α) : lenD (cd l) = some (.int l.length) := by
  show some (PyData.int ((l.map cd).length : Int)) = _
  rw [List.length_map]
theorem len_t (l : List D) : lenD (.tuple l) = some (.int l.length) := rfl
theorem len_l (l : List D) : lenD (.list l) = some (.int l.length) := rfl
theorem seq_cd (l : List α) : seq? (cd l) = some (l.map cd) := rfl
theorem items_cd (l : List α) : items? (cd l) = some (l.map cd) := rfl
theorem ent_cd (l : List α) : ent? (cd l) = some (l.map cd) := rfl
theorem tup_cd (l : List α) : PyData.tuple (l.map cd) = cd l := rfl
theorem nil_cd : PyData.tuple [] = cd ([] : List α) := rfl
theorem flat_cd (l : List α) : flat (cd l) = true := rfl
theorem flat_pr (l : α × β) : flat (cd l) = true := rfl
theorem flat_lp (l : Lp) : flat (cd l) = true := rfl
theorem isi_cd (l : List α) : isiO (cd l) .tuple = some (.bool true, false) := rfl
theorem add_cd (a b : List α) (h : a.length + b.length ≤ 16777216) : bin2 .add (cd a) (cd b) = some (cd (a ++ b), false) := by
  show (if (a.map cd).length + (b.map cd).length ≤ line then some (PyData.tuple (a.map cd ++ b.map cd), false) else none) = _
  rw [if_pos (by rw [List.length_map, List.length_map]; exact h), ← List.map_append]; rfl
theorem add_lst (a b : List α) (h : a.length + b.length ≤ 16777216) : bin2 .add (.list (a.map cd)) (.list (b.map cd)) = some (.list ((a ++ b).map cd), true) := by
  show (if (a.map cd).length + (b.map cd).length ≤ line then some (PyData.list (a.map cd ++ b.map cd), true) else none) = _
  rw [if_pos (by rw [List.length_map, List.length_map]; exact h), ← List.map_append]
theorem add_l (a b : List D) (h : a.length + b.length ≤ 16777216) : bin2 .add (.list a) (.list b) = some (.list (a ++ b), true) := if_pos h
theorem rev_lst (a : List α) : revD (.list (a.map cd)) = some (.list (a.reverse.map cd), true) := by
  show some (PyData.list (a.map cd).reverse, true) = _
  rw [List.map_reverse]
theorem slI_n (n d : Nat) : slI n d .none = some d := rfl
theorem slI_i (n d : Nat) {i : Int} (h : 0 ≤ i) : slI n d (.int i) = some (min i.toNat n) := by
  show some _ = _
  rw [if_neg (by omega)]
theorem sl_fr (l : List α) {i : Int} (h : 0 ≤ i) : slD (cd l) (.int i) .none = some (cd (l.drop i.toNat), false) := by
  show (match slI (l.map cd).length 0 (.int i), slI (l.map cd).length (l.map cd).length .none with | some lo, some hi => some (PyData.tuple (((l.map cd).drop lo).take (hi - lo)), false) | _, _ => none) = _
  rw [slI_i _ _ h, slI_n]
  show some (PyData.tuple _, false) = _
  rw [List.take_of_length_le (by rw [List.length_drop]; omega)]
  show some (PyData.tuple _, false) = some (PyData.tuple ((l.drop i.toNat).map cd), false)
  congr 3
  rw [List.map_drop, Nat.min_def]
  split
  · rfl
  · rw [List.drop_eq_nil_of_le (by omega), List.drop_eq_nil_of_le (by omega)]
theorem sl_to (l : List α) {i : Int} (h : 0 ≤ i) : slD (cd l) .none (.int i) = some (cd (l.take i.toNat), false) := by
  show (match slI (l.map cd).length 0 .none, slI (l.map cd).length (l.map cd).length (.int i) with | some lo, some hi => some (PyData.tuple (((l.map cd).drop lo).take (hi - lo)), false) | _, _ => none) = _
  rw [slI_i _ _ h, slI_n]
  show some (PyData.tuple _, false) = some (PyData.tuple ((l.take i.toNat).map cd), false)
  congr 3
  rw [List.drop_zero, List.map_take, Nat.min_def, Nat.sub_zero]
  split
  · rfl
  · rw [List.take_of_length_le (by omega), List.take_of_length_le (by omega)]
end
/-- the ends of a leap -/
theorem sl_lp2 (x : Lp) : slD (cd x) .none (.int 2) = some (cd [x.a, x.b], false) := rfl
/-! sums -/
theorem ints_cd : ∀ l : List Int, intsOf (l.map cd) = some l
  | [] => rfl
  | i :: l => by
    show (intsOf (l.map cd)).map _ = _
    rw [ints_cd l]; rfl
theorem sum_int (l : List Int) : sumD (.list (l.map cd)) = some (.int l.sum) := by
  show (intsOf (l.map cd)).map _ = _
  rw [ints_cd]; rfl
theorem sumC : ∀ ps : List Nat, (ps.map fun (p : Nat) => (p : Int)).sum = ((ps.sum : Nat) : Int)
  | [] => rfl
  | p :: ps => by
    rw [List.map_cons, List.sum_cons, List.sum_cons, sumC ps]
    omega
theorem cd_natint (l : List Nat) : l.map cd = (l.map fun n : Nat => (n : Int)).map cd := by
  rw [List.map_map]; rfl
theorem sum_nat (l : List Nat) : sumD (.list (l.map cd)) = some (.int (l.sum : Nat)) := by
  rw [cd_natint, sum_int, sumC]
theorem bools_cd : ∀ l : List Bool, boolsOf (l.map cd) = some l
  | [] => rfl
  | i :: l => by
    show (boolsOf (l.map cd)).map _ = _
    rw [bools_cd l]; rfl
theorem any_lst (l : List Bool) : anyD (.list (l.map cd)) = some (l.any id) := by
  show (boolsOf (l.map cd)).map _ = _
  rw [bools_cd]; rfl
theorem all_lst (l : List Bool) : allD (.list (l.map cd)) = some (l.all id) := by
  show (boolsOf (l.map cd)).map _ = _
  rw [bools_cd]; rfl
/-! sorting -/
section
variable {α : Type} [DecidableEq α] [CdO α] [OrdOk α]
def isTup : D → Bool
  | .tuple (_ :: _) => true
  | _ => false
def isOth : D → Bool
  | .none => false
  | .tuple _ => false
  | .dict _ => false
  | _ => true
theorem sortable_cd (l : List α) (h : CdK.dep α ≤ 60) (q : (∀ a ∈ l, isTup (cd a) = true) ∨ ∀ a ∈ l, isOth (cd a) = true) : sortable (l.map cd) = true := by
  unfold sortable
  have h1 : alikes (l.map cd) = true := by
    unfold alikes
    rw [List.all_eq_true]; intro a ha
    rw [List.all_eq_true]; intro b hb
    obtain ⟨i, _, rfl⟩ := List.mem_map.1 ha
    obtain ⟨j, _, rfl⟩ := List.mem_map.1 hb
    exact CdO.alike i j
  have h2 : ((l.map cd).all fun d => decide (PyData.depth d ≤ 60)) = true := by
    rw [List.all_eq_true]; intro a ha
    obtain ⟨i, _, rfl⟩ := List.mem_map.1 ha
    exact decide_eq_true (Nat.le_trans (CdK.depth i) h)
  have h3 : (l.map cd).all PyData.plain = true := by
    rw [List.all_eq_true]; intro a ha
    obtain ⟨i, _, rfl⟩ := List.mem_map.1 ha
    exact CdK.plain i
  rw [h1, h2, h3]
  show ((l.map cd).all isTup || (l.map cd).all isOth) = true
  rw [Bool.or_eq_true]
  rcases q with q | q
  · refine .inl (List.all_eq_true.2 fun a ha => ?_)
    obtain ⟨i, hi, rfl⟩ := List.mem_map.1 ha
    exact q i hi
  · refine .inr (List.all_eq_true.2 fun a ha => ?_)
    obtain ⟨i, hi, rfl⟩ := List.mem_map.1 ha
    exact q i hi
theorem leO_data (a b : α) : PySem.W.dataLe false id (cd a) (cd b) = leO a b := by
  have : PySem.W.dataLe false id (cd a) (cd b) = !PySem.W.dataLt (cd b) (cd a) := rfl
  rw [this, CdO.lt_eq]; rfl
theorem sortL_cd (l : List α) : sortL (l.map cd) = (srt l).map cd := by
  unfold sortL
  exact (List.map_mergeSort fun a _ b _ => (leO_data a b).symm).symm
theorem srtD_cd (l : List α) (h : CdK.dep α ≤ 60) (hl : l.length ≤ 16777216) (q : (∀ a ∈ l, isTup (cd a) = true) ∨ ∀ a ∈ l, isOth (cd a) = true) : srtD (l.map cd) = some (.list ((srt l).map cd)) := by
  unfold srtD
  rw [sortable_cd l h q, List.length_map, decide_eq_true (show l.length ≤ line from hl), sortL_cd]
  rfl
end
theorem srtD_nat (l : List Nat) (hl : l.length ≤ 16777216) : srtD (l.map cd) = some (.list ((srt l).map cd)) := srtD_cd l (by decide) hl (.inr fun _ _ => rfl)
theorem srtD_lp (l : List Lp) (hl : l.length ≤ 16777216) : srtD (l.map cd) = some (.list ((srt l).map cd)) := srtD_cd l (by decide) hl (.inl fun _ _ => rfl)
theorem srtD_pegs (l : List (List Nat)) (hl : l.length ≤ 16777216) (h : ∀ a ∈ l, a ≠ []) : srtD (l.map cd) = some (.list ((srt l).map cd)) := srtD_cd l (by decide) hl (.inl fun a ha => by
  have := h a ha
  cases a with
  | nil => exact absurd rfl this
  | cons x xs => rfl)
/-! each but once -/
section
variable {α : Type} [DecidableEq α]
def ddpA (acc : List α) : List α → List α
  | [] => acc
  | d :: r => ddpA (if d ∈ acc then acc else acc ++ [d]) r
def ddp (l : List α) : List α := ddpA [] l
theorem mem_ddpA {a : α} : ∀ (l acc : List α), a ∈ ddpA acc l ↔ a ∈ acc ∨ a ∈ l
  | [], acc => by simp [ddpA]
  | d :: r, acc => by
    rw [ddpA, mem_ddpA r]
    by_cases h : d ∈ acc
    · rw [if_pos h, List.mem_cons]
      constructor
      · rintro (h | h)
        · exact .inl h
        · exact .inr (.inr h)
      · rintro (h1 | rfl | h1)
        · exact .inl h1
        · exact .inl h
        · exact .inr h1
    · rw [if_neg h]; simp [or_assoc]
theorem mem_ddp {a : α} {l : List α} : a ∈ ddp l ↔ a ∈ l := by unfold ddp; rw [mem_ddpA]; simp
theorem nodup_ddpA : ∀ (l acc : List α), acc.Nodup → (ddpA acc l).Nodup
  | [], _, h => h
  | d :: r, acc, h => by
    rw [ddpA]
    refine nodup_ddpA r _ ?_
    split
    · exact h
    · rename_i hd
      rw [List.nodup_append]
      refine ⟨h, by simp, ?_⟩
      intro a ha b hb e
      simp at hb
      subst hb; subst e
      exact hd ha
theorem nodup_ddp (l : List α) : (ddp l).Nodup := nodup_ddpA l [] List.nodup_nil
theorem len_ddpA : ∀ (l acc : List α), (ddpA acc l).length ≤ acc.length + l.length
  | [], acc => by simp [ddpA]
  | d :: r, acc => by
    rw [ddpA]
    refine Nat.le_trans (len_ddpA r _) ?_
    split
    all_goals (simp only [List.length_append, List.length_cons, List.length_nil]; omega)
theorem len_ddp (l : List α) : (ddp l).length ≤ l.length := by have := len_ddpA l []; simpa [ddp] using this
theorem dedupA_cd [CdK α] : ∀ (l acc : List α), dedupA (acc.map cd) (l.map cd) = (ddpA acc l).map cd
  | [], _ => rfl
  | d :: r, acc => by
    have q : ((acc.map cd).any fun e => PyData.eqv e (cd d)) = decide (d ∈ acc) := by
      rw [Bool.eq_iff_iff, List.any_map, List.any_eq_true, decide_eq_true_eq]
      constructor
      · rintro ⟨x, hx, e⟩
        have e : PyData.eqv (cd x) (cd d) = true := e
        rw [CdK.eqv, decide_eq_true_eq] at e
        rw [← e]; exact hx
      · intro hx
        refine ⟨d, hx, ?_⟩
        show PyData.eqv (cd d) (cd d) = true
        rw [CdK.eqv]; simp
    rw [List.map_cons, dedupA, q, ddpA]
    by_cases h : d ∈ acc
    · rw [decide_eq_true h, if_pos rfl, if_pos h]; exact dedupA_cd r acc
    · rw [decide_eq_false h, if_neg (by decide), if_neg h, ← dedupA_cd r, List.map_append]; rfl
theorem dedup_cd [CdK α] (l : List α) : dedup (l.map cd) = (ddp l).map cd := dedupA_cd l []
theorem keyall_cd [CdK α] (l : List α) : (l.map cd).all keyable = true := by
  rw [List.all_eq_true]; intro a ha
  obtain ⟨i, _, rfl⟩ := List.mem_map.1 ha
  exact CdK.key i
end
/-! defs -/
section
variable {Γ : Gam} {ρ ρ1 : Ro}
/-- what a def gives back -/
def Ret (md : List Md) (Q : D → Bool → List D → Prop) : Oc → Prop
  | .rt d w ρ => ∃ ios, iosOf 0 md ρ = some ios ∧ Q d w ios
  | .nx ρ => ∃ ios, iosOf 0 md ρ = some ios ∧ Q .none false ios
  | _ => False
theorem Ret_rt (md : List Md) (Q : D → Bool → List D → Prop) (d : D) (w : Bool) : Ret md Q (.rt d w ρ) = Bd (iosOf 0 md ρ) (Q d w) := rfl
theorem Ret_nx (md : List Md) (Q : D → Bool → List D → Prop) : Ret md Q (.nx ρ) = Bd (iosOf 0 md ρ) (Q .none false) := rfl
theorem ios_nil (i : Nat) : iosOf i [] ρ = some [] := rfl
theorem ios_a (i : Nat) (ms : List Md) : iosOf i (.a :: ms) ρ = iosOf (i + 1) ms ρ := rfl
theorem ios_b (i : Nat) (ms : List Md) : iosOf i (.b :: ms) ρ = iosOf (i + 1) ms ρ := rfl
def ioD : Sl → Option D
  | .io d => some d
  | _ => none
theorem ioD_io (d : D) : ioD (.io d) = some d := rfl
theorem ios_io (i : Nat) (ms : List Md) : iosOf i (.io :: ms) ρ = (ioD (ρ.at i)).bind fun d => (iosOf (i + 1) ms ρ).map fun r => d :: r := by
  show (match ρ.at i with | .io d => (iosOf (i + 1) ms ρ).map (d :: ·) | _ => none) = _
  cases ρ.at i <;> rfl
theorem runDf_Q {F : Df} {ds : List D} {r : Ro} {Q : D → Bool → List D → Prop} (e1 : argS F.md ds = some r) (h : Run Γ F.body (r ++ List.replicate (F.n - F.md.length) .un) (Ret F.md Q)) : Bd (runDf Γ F ds) fun x => Q x.1 x.2.1 x.2.2 := by
  obtain ⟨o, e2, p⟩ := h
  have e : runDf Γ F ds = ((argS F.md ds).bind fun r => (sxs Γ F.body (r ++ List.replicate (F.n - F.md.length) .un)).bind fun o => match o with
    | .nx ρ => (iosOf 0 F.md ρ).bind fun ios => some (.none, false, ios)
    | .rt d own ρ => (iosOf 0 F.md ρ).bind fun ios => some (d, own, ios)
    | _ => none) := rfl
  rw [e, e1]
  show Bd ((sxs Γ F.body (r ++ List.replicate (F.n - F.md.length) .un)).bind _) _
  rw [e2]
  cases o with
  | nx ρ => obtain ⟨ios, h1, h2⟩ := p; show Bd ((iosOf 0 F.md ρ).bind _) _; rw [h1]; exact ⟨_, rfl, h2⟩
  | rt d w ρ => obtain ⟨ios, h1, h2⟩ := p; show Bd ((iosOf 0 F.md ρ).bind _) _; rw [h1]; exact ⟨_, rfl, h2⟩
  | bk ρ => exact p.elim
  | ct ρ => exact p.elim
/-- the answer is told -/
def Is (d : D) (w : Bool) (ios : List D) : D → Bool → List D → Prop := fun d' w' ios' => d' = d ∧ w' = w ∧ ios' = ios
theorem runDf_is {F : Df} {ds : List D} {r : Ro} {d : D} {w : Bool} {ios : List D} (e1 : argS F.md ds = some r) (h : Run Γ F.body (r ++ List.replicate (F.n - F.md.length) .un) (Ret F.md (Is d w ios))) : runDf Γ F ds = some (d, w, ios) := by
  obtain ⟨⟨a, b, c⟩, e, h1, h2, h3⟩ := runDf_Q e1 h
  rw [e]
  dsimp only at h1 h2 h3
  rw [h1, h2, h3]
theorem Is_eq (d : D) (w : Bool) (ios : List D) (d' : D) (w' : Bool) (ios' : List D) : Is d w ios d' w' ios' = (d' = d ∧ w' = w ∧ ios' = ios) := rfl
/-! loops -/
/-- a turn's end: on (or continue), left by break, left by return -/
def LPo (k b : Ro → Prop) (P : Oc → Prop) : Oc → Prop
  | .nx ρ => k ρ
  | .ct ρ => k ρ
  | .bk ρ => b ρ
  | .rt d w ρ => P (.rt d w ρ)
theorem LP_nx (k b : Ro → Prop) (P : Oc → Prop) : LPo k b P (.nx ρ) = k ρ := rfl
theorem LP_ct (k b : Ro → Prop) (P : Oc → Prop) : LPo k b P (.ct ρ) = k ρ := rfl
theorem LP_bk (k b : Ro → Prop) (P : Oc → Prop) : LPo k b P (.bk ρ) = b ρ := rfl
theorem LP_rt (k b : Ro → Prop) (P : Oc → Prop) (d : D) (w : Bool) : LPo k b P (.rt d w ρ) = P (.rt d w ρ) := rfl
theorem forL_LP {f : D → Ro → Option Oc} {P : Oc → Prop} {b : Ro → Prop} (inv : Nat → Ro → Prop) : ∀ (ds : List D) (k : Nat) (ρ : Ro), inv k ρ → (∀ i (hi : i < ds.length) ρ, inv (k + i) ρ → Bd (f ds[i] ρ) (LPo (inv (k + i + 1)) b P)) → Bd (forL f ds ρ) (fun o => (∃ ρ', o = .nx ρ' ∧ (inv (k + ds.length) ρ' ∨ b ρ')) ∨ ∃ d w ρ', o = .rt d w ρ' ∧ P o)
  | [], k, ρ, h, _ => ⟨_, rfl, .inl ⟨ρ, rfl, .inl h⟩⟩
  | d :: ds, k, ρ, h, st => by
    obtain ⟨o, e, p⟩ := st 0 (Nat.zero_lt_succ _) ρ h
    have e : f d ρ = some o := e
    have next : ∀ ρ1, inv (k + 0 + 1) ρ1 → Bd (forL f ds ρ1) (fun o => (∃ ρ', o = .nx ρ' ∧ (inv (k + (d :: ds).length) ρ' ∨ b ρ')) ∨ ∃ d w ρ', o = .rt d w ρ' ∧ P o) := fun ρ1 h1 => by
      obtain ⟨o2, e2, p2⟩ := forL_LP inv ds (k + 1) ρ1 h1 fun i hi ρ hp => by
        have := st (i + 1) (Nat.succ_lt_succ hi) ρ (by rw [show k + (i + 1) = k + 1 + i by omega]; exact hp)
        rw [show k + (i + 1) + 1 = k + 1 + i + 1 by omega] at this
        exact this
      refine ⟨o2, e2, ?_⟩
      rw [List.length_cons, show k + (ds.length + 1) = k + 1 + ds.length by omega]
      exact p2
    unfold forL
    rw [e]
    cases o with
    | nx ρ1 => exact next ρ1 p
    | ct ρ1 => exact next ρ1 p
    | bk ρ1 => exact ⟨_, rfl, .inl ⟨ρ1, rfl, .inr p⟩⟩
    | rt x w ρ1 => exact ⟨_, rfl, .inr ⟨x, w, ρ1, rfl, p⟩⟩
/-- a loop over typed data -/
theorem Bd_for {α : Type} {l : List α} {enc : α → D} {tg : Tg} {it : It} {body ss : List St} {P : Oc → Prop} (h : evI Γ it ρ = some (l.map enc, ρ1)) (inv : Nat → Ro → Prop) (h0 : inv 0 ρ1)
    (st : ∀ i (hi : i < l.length) ρ, inv i ρ → Bd (bindT ρ tg (enc l[i])) fun r1 => Run Γ body r1 (LPo (inv (i + 1)) (fun ρ => Run Γ ss ρ P) P)) (k : ∀ ρ', inv l.length ρ' → Run Γ ss ρ' P) : Bd (sx Γ (.for_ tg it body) ρ) (Then Γ ss P) := by
  rw [sx_for h]
  obtain ⟨o, e, p⟩ := forL_LP (f := fun d r => (bindT r tg d).bind fun r1 => sxs Γ body r1) (P := P) (b := fun ρ => Run Γ ss ρ P) inv (l.map enc) 0 ρ1 h0 fun i hi ρ hp => by
    rw [Nat.zero_add] at hp ⊢
    have hi' : i < l.length := by simpa using hi
    rw [Bd_bind, List.getElem_map]
    exact st i hi' ρ hp
  refine ⟨o, e, ?_⟩
  rcases p with ⟨ρ', rfl, p | p⟩ | ⟨d, w, ρ', rfl, p⟩
  · rw [Nat.zero_add, List.length_map] at p
    exact k ρ' p
  · exact p
  · exact p
/-- a loop while something holds, with a measure -/
theorem whL_LP {c : Ro → Option (Bool × Ro)} {f : Ro → Option Oc} {P : Oc → Prop} {b : Ro → Prop} (inv : Nat → Ro → Prop) (st : ∀ m ρ, inv m ρ → Bd (c ρ) fun q => if q.1 = true then 0 < m ∧ Bd (f q.2) (LPo (fun ρ' => ∃ m', m' < m ∧ inv m' ρ') b P) else b q.2) : ∀ (n m : Nat) (ρ : Ro), m < n → inv m ρ → Bd (whL c f n ρ) (fun o => (∃ ρ', o = .nx ρ' ∧ b ρ') ∨ ∃ d w ρ', o = .rt d w ρ' ∧ P o)
  | 0, m, _, h, _ => absurd h (Nat.not_lt_zero m)
  | n + 1, m, ρ, h, hi => by
    obtain ⟨⟨t, ρ1⟩, e, p⟩ := st m ρ hi
    unfold whL
    rw [e]
    cases t with
    | false => exact ⟨_, rfl, .inl ⟨ρ1, rfl, p⟩⟩
    | true =>
      dsimp only at p ⊢
      rw [if_pos rfl] at p
      obtain ⟨hm, o, e2, p⟩ := p
      rw [e2]
      cases o with
      | nx ρ2 =>
        obtain ⟨m', hl, h2⟩ := p
        exact whL_LP inv st n m' ρ2 (by omega) h2
      | ct ρ2 =>
        obtain ⟨m', hl, h2⟩ := p
        exact whL_LP inv st n m' ρ2 (by omega) h2
      | bk ρ2 => exact ⟨_, rfl, .inl ⟨ρ2, rfl, p⟩⟩
      | rt x w ρ2 => exact ⟨_, rfl, .inr ⟨x, w, ρ2, rfl, p⟩⟩
theorem Bd_whl {c : Ex} {body ss : List St} {P : Oc → Prop} (inv : Nat → Ro → Prop) {m : Nat} (hm : m < 1000000000) (h0 : inv m ρ)
    (st : ∀ m ρ, inv m ρ → Bd (boolH (ev Γ c ρ)) fun q => if q.1 = true then 0 < m ∧ Run Γ body q.2 (LPo (fun ρ' => ∃ m', m' < m ∧ inv m' ρ') (fun ρ => Run Γ ss ρ P) P) else Run Γ ss q.2 P) : Bd (sx Γ (.whl c body) ρ) (Then Γ ss P) := by
  obtain ⟨o, e, p⟩ := whL_LP (c := evB Γ c) (f := fun r => sxs Γ body r) (P := P) (b := fun ρ => Run Γ ss ρ P) inv st turns m ρ hm h0
  refine ⟨o, e, ?_⟩
  rcases p with ⟨ρ', rfl, p⟩ | ⟨d, w, ρ', rfl, p⟩
  · exact p
  · exact p
/-! comprehensions -/
/-- the running of a comprehension over typed data that changes nothing -/
theorem cmpL_pure {α : Type} {elt c : Ex} {tg : Tg} {enc : α → D} {p : α → Bool} {g : α → D} (ρ : Ro) (hw : ∀ r : Ro, (∃ a, bindT (wipeR ρ tg.slots) tg (enc a) = some r) → wipeR r tg.slots = wipeR ρ tg.slots) : ∀ (l : List α) (r : Ro), wipeR r tg.slots = wipeR ρ tg.slots →
    (∀ a ∈ l, Bd (bindT (wipeR ρ tg.slots) tg (enc a)) fun r1 => boolH (ev Γ c r1) = some (p a, r1) ∧ (p a = true → Bd ((ev Γ elt r1).bind fun q => esc q.2 q.1) fun x => x.1 = g a ∧ x.2.2 = r1)) →
    ∃ ρ2, wipeR ρ2 tg.slots = wipeR ρ tg.slots ∧ cmpL (turnP Γ elt tg c) (l.map enc) r = some ((l.filter p).map g, ρ2) := by
  intro l
  induction l with
  | nil => intro r h _; exact ⟨r, h, rfl⟩
  | cons a l ih =>
    intro r h st
    obtain ⟨r1, e1, e2, e3⟩ := st a (List.mem_cons_self ..)
    have h1 := hw r1 ⟨a, e1⟩
    obtain ⟨ρ2, h2, e4⟩ := ih r1 h1 fun b hb => st b (List.mem_cons_of_mem _ hb)
    refine ⟨ρ2, h2, ?_⟩
    rw [List.map_cons, List.filter_cons]
    cases q : p a with
    | false =>
      have et : turnP Γ elt tg c (enc a) r = some (none, r1) := by
        unfold turnP
        rw [h, e1]
        show ((boolH (ev Γ c r1)).bind _) = _
        rw [e2, q]
        rfl
      rw [cmpL_cons et e4]; rfl
    | true =>
      obtain ⟨⟨x, w, r2⟩, e5, hx, hr⟩ := e3 q
      dsimp only at hx hr
      subst hx hr
      have et : turnP Γ elt tg c (enc a) r = some (some (g a), r2) := by
        unfold turnP
        rw [h, e1]
        show ((boolH (ev Γ c r2)).bind _) = _
        rw [e2, q]
        show ((ev Γ elt r2).bind fun q => (esc q.2 q.1).bind fun w => some (some w.1, w.2.2)) = _
        rw [← Option.bind_assoc, e5]
        rfl
      rw [cmpL_cons et e4]; rfl
theorem x_comp {α : Type} {elt c : Ex} {tg : Tg} {it : It} {l : List α} {enc : α → D} (p : α → Bool) (g : α → D) (e : evI Γ it ρ = some (l.map enc, ρ1)) (fr : (tg.slots.all fun i => (ρ1.at i).free && decide (i < ρ1.length)) = true)
    (hw : ∀ r : Ro, (∃ a, bindT (wipeR ρ1 tg.slots) tg (enc a) = some r) → wipeR r tg.slots = wipeR ρ1 tg.slots)
    (hb : ∀ r : Ro, wipeR r tg.slots = wipeR ρ1 tg.slots → backR ρ1 r tg.slots = ρ1)
    (st : ∀ a ∈ l, Bd (bindT (wipeR ρ1 tg.slots) tg (enc a)) fun r1 => boolH (ev Γ c r1) = some (p a, r1) ∧ (p a = true → Bd ((ev Γ elt r1).bind fun q => esc q.2 q.1) fun x => x.1 = g a ∧ x.2.2 = r1))
    (hl : (l.filter p).length ≤ 16777216) : ev Γ (.comp elt tg it c) ρ = some (.d (.list ((l.filter p).map g)) true, ρ1) := by
  obtain ⟨ρ2, h2, e2⟩ := cmpL_pure (p := p) (g := g) ρ1 hw l ρ1 rfl st
  show ((evI Γ it ρ).bind _) = _
  rw [e]
  show (if (tg.slots.all fun i => (ρ1.at i).free && decide (i < ρ1.length)) = true then (cmpL (turnP Γ elt tg c) (l.map enc) ρ1).bind (fun p => if p.1.length ≤ line then some (Hd.d (.list p.1) true, backR ρ1 p.2 tg.slots) else none) else none) = _
  rw [if_pos fr, e2]
  show (if ((l.filter p).map g).length ≤ line then some (Hd.d (.list _) true, backR ρ1 ρ2 tg.slots) else none) = _
  rw [if_pos (by rw [List.length_map]; exact hl), hb ρ2 h2]
theorem set_set (ρ : Ro) (i : Nat) (x y : Sl) : (ρ.set i x).set i y = ρ.set i y := List.set_set ..
theorem back_nm {ρ1 r : Ro} {i : Nat} (h : r.set i .un = ρ1.set i .un) : r.set i (ρ1.at i) = ρ1 := by
  have q : (r.set i .un).set i (ρ1.at i) = (ρ1.set i .un).set i (ρ1.at i) := by rw [h]
  rw [set_set, set_set] at q
  rw [q]
  refine List.ext_getElem (by simp) fun n h1 h2 => ?_
  rw [List.getElem_set]
  split
  · rename_i e
    subst e
    show ρ1.getD i .un = _
    rw [List.getD_eq_getElem?_getD, List.getElem?_eq_getElem h2]
    rfl
  · rfl
/-- one name -/
theorem x_comp1 {α : Type} {elt c : Ex} {i : Nat} {it : It} {l : List α} {enc : α → D} (p : α → Bool) (g : α → D) (e : evI Γ it ρ = some (l.map enc, ρ1)) (fr : ((ρ1.at i).free && decide (i < ρ1.length)) = true)
    (st : ∀ a ∈ l, boolH (ev Γ c (ρ1.set i (.va (enc a)))) = some (p a, ρ1.set i (.va (enc a))) ∧ (p a = true → Bd ((ev Γ elt (ρ1.set i (.va (enc a)))).bind fun q => esc q.2 q.1) fun x => x.1 = g a ∧ x.2.2 = ρ1.set i (.va (enc a))))
    (hl : (l.filter p).length ≤ 16777216) : ev Γ (.comp elt (.nm i) it c) ρ = some (.d (.list ((l.filter p).map g)) true, ρ1) := by
  have hlen : i < ρ1.length := by
    rw [Bool.and_eq_true] at fr
    exact of_decide_eq_true fr.2
  have hbd : ∀ a, bindT (wipeR ρ1 [i]) (.nm i) (enc a) = some (ρ1.set i (.va (enc a))) := fun a => by
    show (if i < (ρ1.set i .un).length then some ((ρ1.set i .un).set i (.va (enc a))) else none) = _
    rw [if_pos (by rw [List.length_set]; exact hlen), set_set]
  refine x_comp p g e (by show (((ρ1.at i).free && decide (i < ρ1.length)) && true) = true; rw [fr]; rfl) ?_ ?_ ?_ hl
  · rintro r ⟨a, ha⟩
    have ha : bindT (wipeR ρ1 [i]) (.nm i) (enc a) = some r := ha
    rw [hbd] at ha
    cases ha
    exact set_set ..
  · intro r hr
    exact back_nm hr
  · intro a ha
    show Bd (bindT (wipeR ρ1 [i]) (.nm i) (enc a)) _
    rw [hbd, Bd_some]
    exact st a ha
end
end LT
namespace LT
open PySem
theorem ite_and (p : Prop) [Decidable p] (b w : Bool) (ρ : Ro) : (if p then some (Hd.d (.bool b) w, ρ) else some (Hd.d (.bool false) w, ρ)) = some (Hd.d (.bool (decide p && b)) w, ρ) := by
  by_cases h : p <;> simp [h]
theorem ite_or (p : Prop) [Decidable p] (b w : Bool) (ρ : Ro) : (if p then some (Hd.d (.bool true) w, ρ) else some (Hd.d (.bool b) w, ρ)) = some (Hd.d (.bool (decide p || b)) w, ρ) := by
  by_cases h : p <;> simp [h]
theorem imp_f (p : Prop) : (¬ p → False) = p := propext Classical.not_not
end LT
namespace LT
open PySem
theorem dep_nat : CdK.dep Nat = 0 := rfl
theorem dep_int : CdK.dep Int = 0 := rfl
theorem dep_bool : CdK.dep Bool = 0 := rfl
theorem dep_lp : CdK.dep Lp = 1 := rfl
theorem dep_list {α : Type} [DecidableEq α] [CdK α] : CdK.dep (List α) = CdK.dep α + 1 := rfl
theorem dep_pair {α β : Type} [DecidableEq α] [CdK α] [DecidableEq β] [CdK β] : CdK.dep (α × β) = max (CdK.dep α) (CdK.dep β) + 1 := rfl
end LT
end
section
set_option linter.all false
set_option maxRecDepth 100000
open PySem LT Cd
local macro_rules
  | `(tactic| simp_arith [$args,*]) => `(tactic| simp only [Run_Bd, Run_nil, Then_nx, Then_rt, Then_bk, Then_ct, Bd_sxs, Bd_some, Bd_bind, Bd_map, LT.Bd_ite, Bd_none, ite_and, ite_or, imp_f, decide_not, Bool.decide_eq_true, Ret_rt, Ret_nx, Is_eq, ios_nil, ios_a, ios_b, ios_io, ioD_io, LP_nx, LP_ct, LP_bk, LP_rt,
      s_asg, s_asgT, s_par, s_ifs, s_setI, s_setA, s_app, s_upd, s_ex, s_ret, s_ret0, s_brk, s_cnt, s_pas, rtO_d, rtO_s, rtS_ow, rtS_va, rtS_bo, evO_nil, evO_cons, setO_nil, setO_cons, setAll_nil, setAll_cons, bindT_nm, bindT_tp,
      x_v, x_k, x_bin, x_neg, x_cmp, x_chn, x_and, x_or, x_not, x_ite, x_tup, x_lst, x_dct0, x_dct1, x_ix, x_slc, x_rev, x_att, x_call, x_len, x_int, x_sum, x_any, x_all, x_min, x_max, x_min2, x_max2, x_abs, x_str, x_isi, x_idx, x_tupI, x_lstI, x_srt, x_srtS, x_srtK, x_lenS,
      evs_nil, evs_cons, evAs_nil, evAs_a, evAs_b, evAs_io, callG_ok, agv_nil, agv_co, arg1_a, arg1_b, arg1_io, ioS_nil, ioS_io, ioS_a, ioS_b, boS_nil, boS_io, boS_a, boS_bs, boS_bd, putIo_nil, putIo_cons,
      i_seq, i_sq, i_lst, i_rng, i_enum, i_zip, seq_t, seq_l, items_t, items_l, lst_l, ent_t, ent_l, isL_l,
      rd_va, rd_ow, rd_io, rd_bo, rd_su, at_ze, at_su, own_io, own_ow, own_su, ownS_t, ownS_f, esc_s, esc_d, escS_va, escS_ow, escS_bo, flat_int, flat_bool, flat_tuple, flat_none, flat_cd, flat_pr, flat_lp, wlk_s, wlk_d, wlkS_va, wlkS_ow, wlkS_bo, get_d, get_s,
      un1_e, bi1_e, sl1_e, okPart_i, okPart_n, isNoneK, val1_e, bool1_e, intD_int, negD_int, notD_bool, absD_int, asB_b, boolH_e, Option.bind_some, Option.map_some, Option.bind_none, Option.map_none, Option.isSome_some, Option.isSome_map,
      nodupN, disj, List.all_nil, List.all_cons, List.contains_nil, List.contains_cons, Bool.and_self, Bool.and_true, Bool.true_and, Bool.not_false, Bool.not_true, Bool.false_and, Bool.and_false,
      List.set_cons_zero, List.set_cons_succ, List.length_cons, List.length_nil, List.length_map, List.isEmpty_nil,
      if_true, if_false, eq_self, true_and, and_true, true_implies, false_implies, implies_true, not_true, not_false_eq_true, Bool.false_eq_true, Bool.true_eq_false, and_self, ne_eq, decide_true, decide_false, decide_eq_true_eq, Bool.not_eq_true', decide_eq_false_iff_not, reduceIte,
      cd_nat, cd_int, cd_bool, add_int, sub_int, mod_int, fdiv_int, mulR_int, mulL_int, lt_int, gt_int, le_in, ge_int, eqi_int, nei_int, len_cd, len_t, len_l, seq_cd, items_cd, ent_cd, tup_cd, isi_int_int, isi_int_bool, isi_tup, isi_cd, rev_lst, line_n, ix_nat, ix_natL, ixT0, ixT1, ixT2, ixL0, ixL1, ix_l0, ix_l1, ix_l2, ix_pp0, ix_pp1,
      dep_nat, dep_int, dep_bool, dep_lp, dep_list, dep_pair, Nat.zero_le, Nat.max_self, eq_cd, ne_cd, eq_nil, ne_nil, eq_lst, ne_lst, eq_nilL, ne_nilL, in_cd, ni_cd, in_lst, ni_lst, in_nat, ni_nat, in_natL, ni_natL, is_nn, isn_nn, is_bb, isn_bb, is_in, isn_in, is_tn, isn_tn, sum_nat, sum_int, any_lst, all_lst, Int.reduceLT, Int.reduceLE, Int.reduceNeg, Int.reduceAdd, Int.reduceSub, Int.reduceMul, Int.reduceToNat, Int.reduceEq, Int.reduceNe, Nat.reduceLeDiff, Nat.reduceLT, Nat.reduceAdd, Nat.reduceEqDiff, Nat.reduceBEq, Nat.reduceBNe, $args,*])
/-! Comprehensions that draw; the draws. -/
namespace LT
/-- which of a list's members are taken, and what each gives -/
inductive Sel {α : Type} (Q : α → D → Prop) (T : Bool) : List α → List D → Prop
  | nil : Sel Q T [] []
  | skip {a : α} {l : List α} {xs : List D} : T = true → Sel Q T l xs → Sel Q T (a :: l) xs
  | take {a : α} {l : List α} {x : D} {xs : List D} : Q a x → Sel Q T l xs → Sel Q T (a :: l) (x :: xs)
theorem Sel.sub {α : Type} {g : α → D} {T : Bool} : ∀ {l : List α} {xs : List D}, Sel (fun a x => x = g a) T l xs → ∃ m : List α, m.Sublist l ∧ xs = m.map g
  | _, _, .nil => ⟨[], List.Sublist.refl _, rfl⟩
  | _, _, .skip _ h => let ⟨m, h1, h2⟩ := h.sub; ⟨m, h1.cons _, h2⟩
  | _, _, .take q h => let ⟨m, h1, h2⟩ := h.sub; ⟨_ :: m, h1.cons_cons _, by rw [q, h2]; rfl⟩
theorem Sel.all {α β : Type} {e : β → D} {P : β → Prop} : ∀ {l : List α} {xs : List D}, Sel (fun _ x => ∃ b, P b ∧ x = e b) false l xs → ∃ m : List β, m.length = l.length ∧ (∀ b ∈ m, P b) ∧ xs = m.map e
  | _, _, .nil => ⟨[], rfl, (fun _ h => by cases h), rfl⟩
  | _, _, .skip z _ => by cases z
  | _, _, .take ⟨b, p, q⟩ h => by
    obtain ⟨m, h1, h2, h3⟩ := h.all
    refine ⟨b :: m, by simp [h1], ?_, by rw [q, h3]; rfl⟩
    intro c hc
    rcases List.mem_cons.1 hc with rfl | hc
    · exact p
    · exact h2 c hc
theorem Sel.len {α : Type} {Q : α → D → Prop} {T : Bool} : ∀ {l : List α} {xs : List D}, Sel Q T l xs → xs.length ≤ l.length
  | _, _, .nil => Nat.le_refl _
  | _, _, .skip _ h => Nat.le_succ_of_le h.len
  | _, _, .take _ h => Nat.succ_le_succ h.len
section
variable {Γ : Gam} {ρ : Ro}
theorem x_compS {α σ : Type} {elt c : Ex} {i : Nat} {it : It} {l : List α} {enc : α → D} (Q : α → D → Prop) (T : Bool) (emb : σ → Ro) (OK : σ → Prop) (s0 : σ) (x0 : Sl) (e : evI Γ it ρ = some (l.map enc, emb s0)) (h0 : OK s0)
    (fr : x0.free = true) (hi : ∀ s, (emb s).at i = x0) (hl : ∀ s, i < (emb s).length)
    (st : ∀ a ∈ l, ∀ s, OK s → Bd (boolH (ev Γ c ((emb s).set i (.va (enc a))))) fun q => ∃ s1, OK s1 ∧ q.2 = (emb s1).set i (.va (enc a)) ∧ (q.1 = true → Bd ((ev Γ elt q.2).bind fun q => esc q.2 q.1) fun x => Q a x.1 ∧ ∃ s2, OK s2 ∧ x.2.2 = (emb s2).set i (.va (enc a))) ∧ (q.1 = false → T = true))
    (hb : l.length ≤ 16777216) : ∃ xs s', OK s' ∧ Sel Q T l xs ∧ ev Γ (.comp elt (.nm i) it c) ρ = some (.d (.list xs) true, emb s') := by
  have go : ∀ (l' : List α) (s : σ) (r : Ro), (∀ a ∈ l', a ∈ l) → OK s → r.set i .un = (emb s).set i .un → ∃ xs s' r', OK s' ∧ Sel Q T l' xs ∧ r'.set i .un = (emb s').set i .un ∧ cmpL (turnP Γ elt (.nm i) c) (l'.map enc) r = some (xs, r') := by
    intro l'
    induction l' with
    | nil => intro s r _ hs hr; exact ⟨[], s, r, hs, .nil, hr, rfl⟩
    | cons a l' ih =>
      intro s r hm hs hr
      have eb : bindT (wipeR r [i]) (.nm i) (enc a) = some ((emb s).set i (.va (enc a))) := by
        show (if i < (r.set i .un).length then some ((r.set i .un).set i (.va (enc a))) else none) = _
        rw [hr, if_pos (by rw [List.length_set]; exact hl s), set_set]
      obtain ⟨⟨b, r2⟩, e1, s1, k1, k2, k3, k4⟩ := st a (hm a (List.mem_cons_self ..)) s hs
      dsimp only at k2 k3 k4
      cases b with
      | false =>
        obtain ⟨xs, s', r', h1, h2, h3, h4⟩ := ih s1 r2 (fun b hb => hm b (List.mem_cons_of_mem _ hb)) k1 (by rw [k2, set_set])
        refine ⟨xs, s', r', h1, .skip (k4 rfl) h2, h3, ?_⟩
        have et : turnP Γ elt (.nm i) c (enc a) r = some (none, r2) := by
          unfold turnP
          show ((bindT (wipeR r [i]) (.nm i) (enc a)).bind _) = _
          rw [eb]
          show ((boolH _).bind _) = _
          rw [e1]; rfl
        rw [List.map_cons, cmpL_cons et h4]; rfl
      | true =>
        obtain ⟨⟨x, w, r3⟩, e2, q, s2, k5, k6⟩ := k3 rfl
        dsimp only at q k6
        obtain ⟨xs, s', r', h1, h2, h3, h4⟩ := ih s2 r3 (fun b hb => hm b (List.mem_cons_of_mem _ hb)) k5 (by rw [k6, set_set])
        refine ⟨x :: xs, s', r', h1, .take q h2, h3, ?_⟩
        have et : turnP Γ elt (.nm i) c (enc a) r = some (some x, r3) := by
          unfold turnP
          show ((bindT (wipeR r [i]) (.nm i) (enc a)).bind _) = _
          rw [eb]
          show ((boolH _).bind _) = _
          rw [e1]
          show ((ev Γ elt r2).bind fun q => (esc q.2 q.1).bind fun w => some (some w.1, w.2.2)) = _
          rw [← Option.bind_assoc, e2]; rfl
        rw [List.map_cons, cmpL_cons et h4]; rfl
  obtain ⟨xs, s', r', h1, h2, h3, h4⟩ := go l s0 (emb s0) (fun a h => h) h0 rfl
  refine ⟨xs, s', h1, h2, ?_⟩
  show ((evI Γ it ρ).bind _) = _
  rw [e]
  show (if ([i].all fun i => ((emb s0).at i).free && decide (i < (emb s0).length)) = true then (cmpL (turnP Γ elt (.nm i) c) (l.map enc) (emb s0)).bind (fun p => if p.1.length ≤ line then some (Hd.d (.list p.1) true, backR (emb s0) p.2 [i]) else none) else none) = _
  rw [if_pos (by simp [hi, fr, hl]), h4]
  show (if xs.length ≤ line then some (Hd.d (.list xs) true, r'.set i ((emb s0).at i)) else none) = _
  rw [if_pos (show xs.length ≤ line from Nat.le_trans h2.len hb), hi s0, ← hi s', back_nm h3]
end
/-! the draws -/
structure Rw where
  ns : List Int
  p : Int
  s : Int
  c : Int
def Rw.d (r : Rw) : D := .list [.list (r.ns.map .int), .int r.p, .int r.s, .int r.c]
def Rw.ok (r : Rw) : Prop := 0 ≤ r.p ∧ 0 ≤ r.s ∧ r.s < 2147483647
/-- the next draw -/
def tk (r : Rw) (a : Int) : Int × Rw :=
  if 0 < r.c then (r.c % a, ⟨r.ns, r.p, r.s, r.c / a⟩)
  else if (r.ns.length : Int) < r.p + 1 then ((r.s * 48271 + 11) % 2147483647 / 7 % a, ⟨r.ns, r.p + 1, (r.s * 48271 + 11) % 2147483647, r.c⟩)
  else
    let n := r.ns.getD r.p.toNat 0
    let s := (r.s * 48271 + n + 11) % 2147483647
    if 1000000000000000000 ≤ n then (n % a, ⟨r.ns, r.p + 1, s, n / a⟩)
    else ((n % 1000003 * 31 + s / 11) % a, ⟨r.ns, r.p + 1, s, r.c⟩)
theorem tk_ge (r : Rw) {a : Int} (h : 0 < a) : 0 ≤ (tk r a).1 := by
  unfold tk
  dsimp only
  split
  · exact Int.emod_nonneg _ (by omega)
  · split
    · exact Int.emod_nonneg _ (by omega)
    · split <;> exact Int.emod_nonneg _ (by omega)
theorem tk_lt (r : Rw) {a : Int} (h : 0 < a) : (tk r a).1 < a := by
  unfold tk
  dsimp only
  split
  · exact Int.emod_lt_of_pos _ h
  · split
    · exact Int.emod_lt_of_pos _ h
    · split <;> exact Int.emod_lt_of_pos _ h
theorem tk_ok {r : Rw} (a : Int) (h : r.ok) : (tk r a).2.ok := by
  obtain ⟨h1, h2, h3⟩ := h
  unfold tk Rw.ok
  dsimp only
  split
  · exact ⟨h1, h2, h3⟩
  · split
    · exact ⟨by dsimp only; omega, Int.emod_nonneg _ (by omega), Int.emod_lt_of_pos _ (by omega)⟩
    · split <;> exact ⟨by dsimp only; omega, Int.emod_nonneg _ (by omega), Int.emod_lt_of_pos _ (by omega)⟩
theorem Rw.ok0 (ns : List Int) {s : Int} (h : 0 ≤ s) (h2 : s < 2147483647) : Rw.ok ⟨ns, 0, s, 0⟩ := ⟨Int.le_refl _, h, h2⟩
theorem row0 (r : Rw) : ixD r.d (.int 0) = some (.list (r.ns.map .int)) := rfl
theorem row1 (r : Rw) : ixD r.d (.int 1) = some (.int r.p) := rfl
theorem row2 (r : Rw) : ixD r.d (.int 2) = some (.int r.s) := rfl
theorem row3 (r : Rw) : ixD r.d (.int 3) = some (.int r.c) := rfl
theorem put1 (r : Rw) (x : Int) : putD r.d (.int 1) (.int x) = some (Rw.d ⟨r.ns, x, r.s, r.c⟩) := rfl
theorem put2 (r : Rw) (x : Int) : putD r.d (.int 2) (.int x) = some (Rw.d ⟨r.ns, r.p, x, r.c⟩) := rfl
theorem put3 (r : Rw) (x : Int) : putD r.d (.int 3) (.int x) = some (Rw.d ⟨r.ns, r.p, r.s, x⟩) := rfl
theorem pow_18 : bin2 .pow (.int 10) (.int 18) = some (.int 1000000000000000000, false) := by rfl
theorem row_at (ns : List Int) {p : Int} (h : 0 ≤ p) (h2 : p < ns.length) : ixD (.list (ns.map PyData.int)) (.int p) = some (.int (ns.getD p.toNat 0)) := by
  obtain ⟨k, rfl⟩ : ∃ k : Nat, p = k := ⟨p.toNat, by omega⟩
  have hk : k < ns.length := by omega
  show ixD (.list (ns.map cd)) (.int k) = _
  rw [ix_natL, Int.toNat_natCast, List.getElem?_eq_getElem hk, List.getD_eq_getElem?_getD, List.getElem?_eq_getElem hk]
  rfl
def f_law_taken : Df := { md := [.io, .b], n := 4, body := [.ifs (.cmp .gt (.ix (.v 0) (.k (.int 3))) (.k (.int 0))) [.asg 2 (.bin .mod (.int (.ix (.v 0) (.k (.int 3)))) (.v 1)), .setI 0 (.k (.int 3)) (.bin .fdiv (.ix (.v 0) (.k (.int 3))) (.v 1)), .ret (.v 2)] [], .setI 0 (.k (.int 1)) (.bin .add (.ix (.v 0) (.k (.int 1))) (.k (.int 1))), .ifs (.cmp .gt (.ix (.v 0) (.k (.int 1))) (.len (.ix (.v 0) (.k (.int 0))))) [.setI 0 (.k (.int 2)) (.bin .mod (.int (.bin .add (.bin .mul (.ix (.v 0) (.k (.int 2))) (.k (.int 48271))) (.k (.int 11)))) (.k (.int 2147483647))), .ret (.bin .mod (.int (.bin .fdiv (.ix (.v 0) (.k (.int 2))) (.k (.int 7)))) (.v 1))] [], .asg 3 (.ix (.ix (.v 0) (.k (.int 0))) (.bin .sub (.ix (.v 0) (.k (.int 1))) (.k (.int 1)))), .setI 0 (.k (.int 2)) (.bin .mod (.int (.bin .add (.bin .add (.bin .mul (.ix (.v 0) (.k (.int 2))) (.k (.int 48271))) (.v 3)) (.k (.int 11)))) (.k (.int 2147483647))), .ifs (.cmp .ge (.v 3) (.bin .pow (.k (.int 10)) (.k (.int 18)))) [.setI 0 (.k (.int 3)) (.bin .fdiv (.v 3) (.v 1)), .ret (.bin .mod (.int (.v 3)) (.v 1))] [], .ret (.bin .mod (.int (.bin .add (.bin .mul (.bin .mod (.int (.v 3)) (.k (.int 1000003))) (.k (.int 31))) (.bin .fdiv (.ix (.v 0) (.k (.int 2))) (.k (.int 11))))) (.v 1))] }
theorem law_taken (Γ : Gam) {r : Rw} {a : Int} (h : r.ok) (ha : 0 < a) (ha2 : a < 18446744073709551616) : runDf Γ f_law_taken [r.d, .int a] = some (.int (tk r a).1, false, [(tk r a).2.d]) := by
  obtain ⟨hp, hs, hs2⟩ := h
  refine runDf_is (r := [.io r.d, .bo (.int a)]) rfl ?_
  show Run Γ _ [.io r.d, .bo (.int a), .un, .un] _
  unfold tk
  dsimp only
  by_cases h : 0 < r.c
  · simp_arith [f_law_taken, row3, put3, h, ha, ha2]
  · by_cases h2 : (r.ns.length : Int) < r.p + 1
    · simp_arith [f_law_taken, row0, row1, row2, row3, put1, put2, put3, h, h2, ha, ha2]
    · have e : r.p + 1 - 1 = r.p := by omega
      have q := row_at r.ns hp (by omega)
      by_cases h3 : 1000000000000000000 ≤ r.ns.getD r.p.toNat 0
      · simp_arith [f_law_taken, row0, row1, row2, row3, put1, put2, put3, h, h2, ha, ha2, e, q, pow_18, h3]
      · simp_arith [f_law_taken, row0, row1, row2, row3, put1, put2, put3, h, h2, ha, ha2, e, q, pow_18, h3]
def Stk (Γ : Gam) : Prop := ∀ (r : Rw) (a : Int), r.ok → 0 < a → a < 18446744073709551616 → Γ "_law_taken" [r.d, .int a] = some (.int (tk r a).1, false, [(tk r a).2.d])
def f_law_pick : Df := { md := [.io, .b], n := 2, body := [.ret (.ix (.v 1) (.call "_law_taken" [.io 0, .b (.len (.v 1))]))] }
/-- one of some things -/
def pk (r : Rw) (n : Nat) : Nat := (tk r n).1.toNat
theorem pk_lt (r : Rw) {n : Nat} (h : 0 < n) : pk r n < n := by
  have h1 := tk_ge r (a := (n : Int)) (by omega)
  have h2 := tk_lt r (a := (n : Int)) (by omega)
  unfold pk
  omega
theorem pk_eq (r : Rw) {n : Nat} (h : 0 < n) : (tk r n).1 = (pk r n : Nat) := by
  have h1 := tk_ge r (a := (n : Int)) (by omega)
  unfold pk
  omega
theorem law_pick {Γ : Gam} (ht : Stk Γ) {r : Rw} {l : List D} (h : r.ok) (hl : 0 < l.length) (hl2 : l.length ≤ 16777216) : runDf Γ f_law_pick [r.d, .list l] = some (l[pk r l.length]'(pk_lt r hl), false, [(tk r l.length).2.d]) := by
  refine runDf_is (r := [.io r.d, .bo (.list l)]) rfl ?_
  show Run Γ _ [.io r.d, .bo (.list l)] _
  have e := ht r l.length h (by omega) (by omega)
  have q : ixD (.list l) (.int (pk r l.length)) = some (l[pk r l.length]'(pk_lt r hl)) := by rw [ixL_nat, List.getElem?_eq_getElem (pk_lt r hl)]
  rw [pk_eq r hl] at e
  simp_arith [f_law_pick, e, q]
end LT
end
section
set_option linter.all false
set_option maxRecDepth 100000
/-! The lines of the program, as data. -/
namespace LT.Ln
open PySem LT
def f_is_number : Df := { md := [.b], n := 1, body := [.ret (.and_ (.isi (.v 0) .int) (.not_ (.isi (.v 0) .bool)))] }
def f_first_false : Df := { md := [.b], n := 3, body := [.for_ (.tp [1, 2]) (.enum (.v 0)) [.ifs (.not_ (.v 2)) [.ret (.v 1)] []], .ret (.k .none)] }
def f_need_line : Df := { md := [.b], n := 6, body := [.ifs (.not_ (.isi (.v 0) .tuple)) [.rai] [], .asg 1 (.lst []), .for_ (.tp [2, 3]) (.enum (.v 0)) [.asg 4 (.and_ (.call "is_number" [.b (.v 3)]) (.chn .le .le (.k (.int 0)) (.v 3) (.k (.int 40)))), .ifs (.and_ (.v 4) (.and_ (.cmp .gt (.v 2) (.k (.int 0))) (.ix (.v 1) (.neg (.k (.int 1)))))) [.asg 4 (.cmp .lt (.ix (.v 0) (.bin .sub (.v 2) (.k (.int 1)))) (.v 3))] [], .app 1 (.v 4)], .asg 5 (.call "first_false" [.b (.v 1)]), .ifs (.cmp .isnot (.v 5) (.k .none)) [.rai] []] }
abbrev I (n : Nat) : D := .int (n : Int)
/-- a standing -/
abbrev Pg (ps : List Nat) : D := .tuple (ps.map I)
theorem is_number (Γ : Gam) (n : Int) : runDf Γ f_is_number [.int n] = some (.bool true, false, []) := rfl
theorem first_false (Γ : Gam) (n : Nat) : runDf Γ f_first_false [.list (List.replicate n (.bool true))] = some (.none, false, []) := by
  refine runDf_of (r := [.bo (.list (List.replicate n (.bool true)))]) rfl ?_ fun _ => rfl
  refine run_for (ds := enumL 0 (List.replicate n (.bool true))) (ρ1 := [.bo (.list (List.replicate n (.bool true))), .un, .un]) rfl (fun i ρ => ∃ a b, ρ = [.bo (.list (List.replicate n (.bool true))), a, b]) ⟨_, _, rfl⟩ (fun i hi ρ ⟨a, b, e⟩ => ?_) fun ρ' ⟨a, b, e⟩ => ?_
  · subst e
    rw [enumP_at, List.getElem_replicate]
    refine ⟨_, rfl, ?_⟩
    refine run_if (b := false) (by rfl) (fun z => by cases z) fun _ => ?_
    exact run_nil (run_nil ⟨_, .inl rfl, _, _, rfl⟩)
  · subst e
    exact run_rt rfl (.inl ⟨_, rfl⟩)
/-- ascending, below 41 -/
def Okp (ps : List Nat) : Prop := ps.Pairwise (· < ·) ∧ ∀ p ∈ ps, p ≤ 40
theorem Okp.ge {ps : List Nat} (hp : Okp ps) : ∀ i (hi : i < ps.length), i ≤ ps[i]
  | 0, _ => Nat.zero_le _
  | i + 1, hi => by
    have h1 := hp.ge i (by omega)
    have h2 := List.pairwise_iff_getElem.mp hp.1 i (i + 1) (by omega) hi (by omega)
    omega
theorem Okp.len {ps : List Nat} (hp : Okp ps) : ps.length ≤ 41 := by
  by_cases h : ps.length ≤ 41
  · exact h
  · have h1 := hp.ge 41 (by omega)
    have h2 := hp.2 _ (List.getElem_mem (show 41 < ps.length by omega))
    omega
theorem need_line (Γ : Gam) (h1 : ∀ n : Int, Γ "is_number" [.int n] = some (.bool true, false, [])) (h2 : ∀ n, Γ "first_false" [.list (List.replicate n (.bool true))] = some (.none, false, [])) {ps : List Nat} (hp : Okp ps) : runDf Γ f_need_line [Pg ps] = some (.none, false, []) := by
  refine runDf_of (r := [.bo (Pg ps)]) rfl ?_ fun _ => rfl
  refine run_if (b := false) (by rfl) (fun z => by cases z) fun _ => run_nil ?_
  refine run_nx (ρ1 := [.bo (Pg ps), .ow (.list []), .un, .un, .un, .un]) rfl ?_
  refine run_for (ds := enumL 0 (ps.map I)) (ρ1 := [.bo (Pg ps), .ow (.list []), .un, .un, .un, .un]) rfl (fun i ρ => ∃ a b c, ρ = [.bo (Pg ps), .ow (.list (List.replicate i (.bool true))), a, b, c, .un]) ⟨_, _, _, rfl⟩ (fun i hi ρ ⟨a, b, c, e⟩ => ?_) fun ρ' ⟨a, b, c, e⟩ => ?_
  · subst e
    rw [enumP_at]
    have hl : i < ps.length := by simpa [enumP_len] using hi
    have eg : (ps.map I)[i]'(by simpa using hl) = I ps[i] := by simp
    rw [eg, Nat.zero_add]
    have hle : ps[i] ≤ 40 := hp.2 _ (List.getElem_mem hl)
    have hge := hp.ge i hl
    refine ⟨[.bo (Pg ps), .ow (.list (List.replicate i (.bool true))), .va (I i), .va (I ps[i]), c, .un], rfl, ?_⟩
    have c1 : cmpD .le (.int 0) (I ps[i]) = some true := by rw [le_in]; simp
    have c2 : cmpD .le (I ps[i]) (.int 40) = some true := by rw [le_in]; simp; omega
    refine run_nx (asg_of (and_t (call_of rfl rfl (h1 _) rfl) rfl (chn_of rfl rfl rfl rfl c1 rfl rfl rfl c2) rfl) rfl) ?_
    show Run Γ _ [.bo (Pg ps), .ow (.list (List.replicate i (.bool true))), .va (I i), .va (I ps[i]), .va (.bool true), .un] _
    have fin : Run Γ [.app 1 (.v 4)] [.bo (Pg ps), .ow (.list (List.replicate i (.bool true))), .va (I i), .va (I ps[i]), .va (.bool true), .un] fun o => ∃ ρ', (o = .nx ρ' ∨ o = .ct ρ') ∧ ∃ a b c, ρ' = [.bo (Pg ps), .ow (.list (List.replicate (i + 1) (.bool true))), a, b, c, .un] := by
      refine run_nx (app_of (ds := List.replicate i (.bool true)) rfl rfl rfl rfl rfl (by rw [List.length_replicate]; unfold line; omega)) (run_nil ⟨_, .inl rfl, .va (I i), .va (I ps[i]), .va (.bool true), ?_⟩)
      rw [List.replicate_succ']
      rfl
    by_cases h0 : i = 0
    · subst h0
      have c3 : cmpD .gt (I 0) (.int 0) = some false := by rw [gt_int]; rfl
      exact run_if (b := false) (evB_run (and_t rfl rfl (and_f (cmp_of rfl rfl rfl rfl c3) rfl) rfl) rfl) (fun z => by cases z) fun _ => run_nil fin
    · have hi1 : i - 1 < ps.length := by omega
      have q1 : ixD (.list (List.replicate i (.bool true))) (.int (-1)) = some (.bool true) := by
        show ((ixI (List.replicate i (PyData.bool true)).length (-1)).bind fun n => (List.replicate i (PyData.bool true))[n]?) = _
        unfold ixI
        rw [if_neg (by omega), if_pos (by rw [List.length_replicate]; omega), List.length_replicate]
        show (List.replicate i (PyData.bool true))[_]? = _
        rw [List.getElem?_replicate, if_pos (by omega)]
      have q2 : ixD (Pg ps) (.int ((i : Int) - 1)) = some (I ps[i - 1]) := by
        show ((ixI (ps.map I).length ((i : Int) - 1)).bind fun n => (ps.map I)[n]?) = _
        unfold ixI
        rw [if_pos (by omega), if_pos (by rw [List.length_map]; omega)]
        show (ps.map I)[_]? = _
        rw [show ((i : Int) - 1).toNat = i - 1 by omega, List.getElem?_map, List.getElem?_eq_getElem hi1]
        rfl
      have lt : ps[i - 1] < ps[i] := List.pairwise_iff_getElem.mp hp.1 (i - 1) i hi1 hl (by omega)
      have c3 : cmpD .gt (I i) (.int 0) = some true := by rw [gt_int]; simp; omega
      have c4 : cmpD .lt (I ps[i - 1]) (I ps[i]) = some true := by rw [lt_int]; simp; omega
      refine run_if (b := true) (evB_run (and_t rfl rfl (and_t (cmp_of rfl rfl rfl rfl c3) rfl (ix_of rfl rfl rfl rfl q1) rfl) rfl) rfl) (fun _ => ?_) fun z => by cases z
      exact run_nx (asg_of (cmp_of (ix_of rfl rfl rfl rfl q2) rfl rfl rfl c4) rfl) (run_nil fin)
  · subst e
    rw [enumP_len, List.length_map]
    refine run_nx (asg_of (call_of rfl rfl (h2 ps.length) rfl) rfl) ?_
    refine run_if (b := false) (by rfl) (fun z => by cases z) fun _ => run_nil (run_nil (.inr ⟨_, rfl, rfl, rfl⟩))
end LT.Ln
end
section
set_option linter.all false
set_option maxRecDepth 100000
namespace LT.Ln
open PySem LT
theorem plain_I : ∀ ps : List Nat, PyData.plainAll (ps.map I) = true
  | [] => rfl
  | p :: ps => plain_I ps
theorem depth_I : ∀ ps : List Nat, PyData.depthAll (ps.map I) ≤ 1
  | [] => by decide
  | p :: ps => by
    have := depth_I ps
    show max (PyData.depth (I p)) (PyData.depthAll (ps.map I)) ≤ 1
    have h : PyData.depth (I p) ≤ 1 := by first | decide | (show 0 ≤ 1; decide) | (show 1 ≤ 1; decide)
    omega
theorem in_I (n : Nat) (ps : List Nat) : inD (I n) (Pg ps) = some (decide (n ∈ ps)) := by
  have hd := depth_I ps
  show (if (PyData.plain (I n) && PyData.plainAll (ps.map I) && decide (PyData.depth (I n) ≤ 60) && decide (PyData.depthAll (ps.map I) ≤ 60)) = true then some ((ps.map I).any fun y => PyData.eqv y (I n)) else none) = _
  rw [if_pos (by rw [plain_I, show PyData.plain (I n) = true from rfl, decide_eq_true (show PyData.depth (I n) ≤ 60 from Nat.le_of_ble_eq_true rfl), decide_eq_true (show PyData.depthAll (ps.map I) ≤ 60 by omega)]; rfl)]
  congr 1
  rw [Bool.eq_iff_iff]
  simp only [List.any_map, List.any_eq_true, decide_eq_true_eq, Function.comp]
  constructor
  · rintro ⟨x, hx, e⟩
    have e : ((x : Int) == (n : Int)) = true := e
    have : x = n := by have := of_decide_eq_true e; omega
    rw [← this]; exact hx
  · intro h
    exact ⟨n, h, (beq_self_eq_true (n : Int) : _)⟩
theorem ints_I : ∀ ps : List Nat, intsOf (ps.map I) = some (ps.map fun (p : Nat) => (p : Int))
  | [] => rfl
  | p :: ps => by
    show (intsOf (ps.map I)).map _ = _
    rw [ints_I ps]
    rfl
theorem sum_cast : ∀ ps : List Nat, (ps.map fun (p : Nat) => (p : Int)).sum = ((ps.sum : Nat) : Int)
  | [] => rfl
  | p :: ps => by
    rw [List.map_cons, List.sum_cons, List.sum_cons, sum_cast ps]
    omega
theorem sum_I (ps : List Nat) : sumD (.list (ps.map I)) = some (I ps.sum) := by
  show (intsOf (ps.map I)).map _ = _
  rw [ints_I, Option.map_some, sum_cast]
/-! worths -/
def wv : Nat → Nat
  | 0 => 1
  | 1 => 2
  | n + 2 => wv n + wv (n + 1)
def f_line_worth : Df := { md := [.b], n := 4, body := [.par [1, 2] [(.k (.int 1)), (.k (.int 2))], .for_ (.nm 3) (.rng [(.v 0)]) [.par [1, 2] [(.v 2), (.bin .add (.v 1) (.v 2))]], .ret (.v 1)] }
theorem line_worth (Γ : Gam) (n : Nat) (h : n < 2 ^ 60) : runDf Γ f_line_worth [I n] = some (I (wv n), false, []) := by
  refine runDf_of (r := [.bo (I n)]) rfl ?_ fun _ => rfl
  refine run_nx (ρ1 := [.bo (I n), .va (I 1), .va (I 2), .un]) rfl ?_
  refine run_for (evI_rng1 rfl (by simpa using h)) (fun i ρ => ∃ t, ρ = [.bo (I n), .va (I (wv i)), .va (I (wv (i + 1))), t]) ⟨_, rfl⟩ (fun i hi ρ ⟨t, e⟩ => ?_) fun ρ' ⟨t, e⟩ => ?_
  · subst e
    refine ⟨_, rfl, ?_⟩
    exact run_nx rfl (run_nil ⟨_, .inl rfl, _, rfl⟩)
  · subst e
    rw [List.length_map, List.length_range, Int.toNat_natCast]
    exact run_rt rfl (.inl ⟨_, rfl⟩)
def f_line_value : Df := { md := [.b], n := 2, body := [.ex (.call "need_line" [.b (.v 0)]), .ret (.sum (.comp (.call "line_worth" [.b (.v 1)]) (.nm 1) (.seq (.v 0)) (.k (.bool true))))] }
def val (ps : List Nat) : Nat := (ps.map wv).sum
theorem line_value (Γ : Gam) (h1 : ∀ ps, Okp ps → Γ "need_line" [Pg ps] = some (.none, false, [])) (h2 : ∀ n, n < 2 ^ 60 → Γ "line_worth" [I n] = some (I (wv n), false, [])) {ps : List Nat} (hp : Okp ps) : runDf Γ f_line_value [Pg ps] = some (I (val ps), false, []) := by
  refine runDf_of (r := [.bo (Pg ps)]) rfl ?_ fun _ => rfl
  refine run_nx (ex_of (call_of rfl rfl (h1 ps hp) rfl)) ?_
  show Run Γ _ [.bo (Pg ps), .un] _
  obtain ⟨ρ2, ⟨t, e⟩, q⟩ := comp_of (Γ := Γ) (elt := .call "line_worth" [.b (.v 1)]) (c := .k (.bool true)) (tg := .nm 1) (it := .seq (.v 0)) (ρ := [.bo (Pg ps), .un]) (ρ1 := [.bo (Pg ps), .un]) (ds := ps.map I) (xs := (ps.map wv).map I) rfl rfl
    (fun r => ∃ t, r = [.bo (Pg ps), t]) ⟨_, rfl⟩ (fun d => match d with | .int i => some (I (wv i.toNat)) | _ => none) (fun d hd r ⟨t, e⟩ => by
      obtain ⟨n, hn, rfl⟩ := List.mem_map.mp hd
      subst e
      have hle := hp.2 n hn
      refine ⟨_, true, _, rfl, rfl, .inr ⟨rfl, _, _, _, _, _, call_of rfl rfl (h2 n (by omega)) rfl, rfl, rfl, _, rfl⟩⟩) (by
      rw [List.filterMap_map, List.map_map]
      rw [← List.filterMap_eq_map]
      rfl) (by have := hp.len; simp; unfold line; omega)
  subst e
  refine run_rt (ret_of (un_of q rfl ?_)) (.inl ⟨_, rfl⟩)
  show val1 (sumD (.list ((ps.map wv).map I))) = _
  rw [sum_I]
  rfl
end LT.Ln
end
section
set_option linter.all false
set_option maxRecDepth 100000
namespace LT.Ln
open PySem LT
def f_least_line : Df := { md := [.a], n := 4, body := [.par [1, 2] [(.v 0), (.lst [])], .for_ (.nm 3) (.rng [(.bin .add (.k (.int 40)) (.k (.int 1))), (.neg (.k (.int 1))), (.neg (.k (.int 1)))]) [.ifs (.cmp .le (.call "line_worth" [.b (.v 3)]) (.v 1)) [.asg 1 (.bin .sub (.v 1) (.call "line_worth" [.b (.v 3)])), .app 2 (.v 3)] []], .ret (.tupI (.sq (.rev (.v 2))))] }
/-- the greatest worths first, of the places below k -/
def gr : Nat → Nat → List Nat
  | 0, _ => []
  | k + 1, v => if wv k ≤ v then gr k (v - wv k) ++ [k] else gr k v
theorem gr_succ (k v : Nat) : gr (k + 1) v = if wv k ≤ v then gr k (v - wv k) ++ [k] else gr k v := rfl
theorem least_line (Γ : Gam) (h2 : ∀ n, n < 2 ^ 60 → Γ "line_worth" [I n] = some (I (wv n), false, [])) (v : Nat) : runDf Γ f_least_line [I v] = some (Pg (gr 42 v), false, []) := by
  refine runDf_of (r := [.va (I v)]) rfl ?_ fun _ => rfl
  refine run_nx (ρ1 := [.va (I v), .va (I v), .ow (.list []), .un]) rfl ?_
  refine run_for (evI_rng3 (i := 41) (j := -1) rfl (by decide) (by decide)) (fun i ρ => ∃ (rest : Nat) (found : List Nat) (t : Sl), i ≤ 42 ∧ ρ = [.va (I v), .va (I rest), .ow (.list (found.map I)), t] ∧ gr 42 v = gr (42 - i) rest ++ found.reverse ∧ found.length ≤ i) ⟨v, [], _, by decide, rfl, by simp, Nat.le_refl _⟩ (fun i hi ρ ⟨rest, found, t, hi2, e, eg, hl⟩ => ?_) fun ρ' ⟨rest, found, t, hi2, e, eg, hl⟩ => ?_
  · subst e
    have hi' : i < 42 := by simpa using hi
    have ed : ((List.range ((41 : Int) - -1).toNat).map fun (k : Nat) => PyData.int ((41 : Int) - (k : Int)))[i]'hi = I (41 - i) := by
      simp only [List.getElem_map, List.getElem_range]
      congr 1
      omega
    rw [ed]
    refine ⟨[.va (I v), .va (I rest), .ow (.list (found.map I)), .va (I (41 - i))], rfl, ?_⟩
    have hk : 42 - i = (41 - i) + 1 := by omega
    have ew := h2 (41 - i) (by omega)
    by_cases hw : wv (41 - i) ≤ rest
    · have c1 : cmpD .le (I (wv (41 - i))) (I rest) = some true := by rw [le_in]; simp; omega
      refine run_if (b := true) (evB_run (cmp_of (call_of rfl rfl ew rfl) rfl rfl rfl c1) rfl) (fun _ => ?_) fun z => by cases z
      refine run_nx (asg_of (bi_of (g := bin2 .sub) (d := I (rest - wv (41 - i))) (w := false) rfl (call_of rfl rfl ew rfl) rfl rfl ?_) rfl) ?_
      · show some (PyData.int ((rest : Int) - (wv (41 - i) : Int)), false) = _
        rw [show ((rest : Int) - (wv (41 - i) : Int)) = ((rest - wv (41 - i) : Nat) : Int) by omega]
      show Run Γ _ [.va (I v), .va (I (rest - wv (41 - i))), .ow (.list (found.map I)), .va (I (41 - i))] _
      refine run_nx (app_of (ds := found.map I) rfl rfl rfl rfl rfl (by rw [List.length_map]; unfold line; omega)) (run_nil (run_nil ⟨_, .inl rfl, rest - wv (41 - i), found ++ [41 - i], .va (I (41 - i)), by omega, ?_, ?_, by simp; omega⟩))
      · rw [List.map_append]; rfl
      · rw [eg, hk]
        show gr (41 - i + 1) rest ++ _ = gr (42 - (i + 1)) _ ++ _
        rw [gr_succ, if_pos hw, show 42 - (i + 1) = 41 - i by omega]
        simp
    · have c1 : cmpD .le (I (wv (41 - i))) (I rest) = some false := by rw [le_in]; simp; omega
      refine run_if (b := false) (evB_run (cmp_of (call_of rfl rfl ew rfl) rfl rfl rfl c1) rfl) (fun z => by cases z) fun _ => ?_
      refine run_nil (run_nil ⟨_, .inl rfl, rest, found, .va (I (41 - i)), by omega, rfl, ?_, by omega⟩)
      rw [eg, hk]
      show gr (41 - i + 1) rest ++ _ = gr (42 - (i + 1)) _ ++ _
      rw [show 42 - (i + 1) = 41 - i by omega]
      rw [gr_succ, if_neg hw]
  · subst e
    have hlen : ((List.range ((41 : Int) - -1).toNat).map fun (k : Nat) => PyData.int ((41 : Int) - (k : Int))).length = 42 := by simp
    rw [hlen] at eg hl
    have eg : gr 42 v = found.reverse := by rw [eg]; rfl
    have q : ev Γ (.tupI (.sq (.rev (.v 2)))) [.va (I v), .va (I rest), .ow (.list (found.map I)), t] = some (.d (Pg (gr 42 v)) false, [.va (I v), .va (I rest), .ow (.list (found.map I)), t]) := by
      show (if ((found.map I).reverse).length ≤ line then some (Hd.d (.tuple (found.map I).reverse) false, _) else none) = _
      rw [if_pos (by simp; unfold line; omega), eg]
      show some (Hd.d (.tuple (found.map I).reverse) false, _) = some (Hd.d (.tuple (found.reverse.map I)) false, _)
      rw [List.map_reverse]
    exact run_rt (ret_of q) (.inl ⟨_, rfl⟩)
end LT.Ln
end
section
set_option linter.all false
set_option maxRecDepth 100000
namespace LT.Ln
open PySem LT
def f_settled : Df := { md := [.b], n := 1, body := [.ret (.call "least_line" [.a (.call "line_value" [.b (.v 0)])])] }
theorem settled (Γ : Gam) (h1 : ∀ v, Γ "least_line" [I v] = some (Pg (gr 42 v), false, [])) (h2 : ∀ ps, Okp ps → Γ "line_value" [Pg ps] = some (I (val ps), false, [])) {ps : List Nat} (hp : Okp ps) : runDf Γ f_settled [Pg ps] = some (Pg (gr 42 (val ps)), false, []) := by
  refine runDf_of (r := [.bo (Pg ps)]) rfl ?_ fun _ => rfl
  have e : evAs Γ [.a (.call "line_value" [.b (.v 0)])] [.bo (Pg ps)] = some ([(.d (I (val ps)) false, .a)], [.bo (Pg ps)]) := by
    show ((evA Γ (.a (.call "line_value" [.b (.v 0)])) [.bo (Pg ps)]).bind _) = _
    have : evA Γ (.a (.call "line_value" [.b (.v 0)])) [.bo (Pg ps)] = some ((.d (I (val ps)) false, .a), [.bo (Pg ps)]) := by
      show ((ev Γ (.call "line_value" [.b (.v 0)]) [.bo (Pg ps)]).bind _) = _
      rw [call_of rfl rfl (h2 ps hp) rfl]
      rfl
    rw [this]
    rfl
  exact run_rt (ret_of (call_of e rfl (h1 _) rfl)) (.inl ⟨_, rfl⟩)
def f_many_leaps : Df := { md := [.b], n := 1, body := [.ret (.bin .sub (.len (.v 0)) (.len (.call "settled" [.b (.v 0)])))] }
theorem many_leaps (Γ : Gam) (h1 : ∀ ps, Okp ps → Γ "settled" [Pg ps] = some (Pg (gr 42 (val ps)), false, [])) {ps : List Nat} (hp : Okp ps) : runDf Γ f_many_leaps [Pg ps] = some (.int ((ps.length : Int) - ((gr 42 (val ps)).length : Int)), false, []) := by
  refine runDf_of (r := [.bo (Pg ps)]) rfl ?_ fun _ => rfl
  have e1 : ev Γ (.len (.v 0)) [.bo (Pg ps)] = some (.d (.int (ps.length : Int)) false, [.bo (Pg ps)]) := by
    show some (Hd.d (PyData.int ((ps.map I).length : Int)) false, _) = _
    rw [List.length_map]
  have e2 : ev Γ (.len (.call "settled" [.b (.v 0)])) [.bo (Pg ps)] = some (.d (.int ((gr 42 (val ps)).length : Int)) false, [.bo (Pg ps)]) := by
    refine un_of (call_of rfl rfl (h1 ps hp) rfl) rfl ?_
    show some (PyData.int (((gr 42 (val ps)).map I).length : Int), false) = _
    rw [List.length_map]
  exact run_rt (ret_of (bi_of (g := bin2 .sub) e1 e2 rfl rfl rfl)) (.inl ⟨_, rfl⟩)
def f_do_meet : Df := { md := [.b, .b], n := 2, body := [.ret (.cmp .eq (.call "line_value" [.b (.v 0)]) (.call "line_value" [.b (.v 1)]))] }
theorem do_meet (Γ : Gam) (h2 : ∀ ps, Okp ps → Γ "line_value" [Pg ps] = some (I (val ps), false, [])) {ps qs : List Nat} (hp : Okp ps) (hq : Okp qs) : runDf Γ f_do_meet [Pg ps, Pg qs] = some (.bool (decide (val ps = val qs)), false, []) := by
  refine runDf_of (r := [.bo (Pg ps), .bo (Pg qs)]) rfl ?_ fun _ => rfl
  have c : cmpD .eq (I (val ps)) (I (val qs)) = some (decide (val ps = val qs)) := by
    rw [eq_int]
    congr 1
    rw [Bool.eq_iff_iff]
    simp
    omega
  exact run_rt (ret_of (cmp_of (call_of rfl rfl (h2 ps hp) rfl) (call_of rfl rfl (h2 qs hq) rfl) rfl rfl c)) (.inl ⟨_, rfl⟩)
def f_line_leaps : Df := { md := [.b], n := 2, body := [.ex (.call "need_line" [.b (.v 0)]), .ret (.tupI (.sq (.comp (.v 1) (.nm 1) (.seq (.v 0)) (.and_ (.cmp .isin (.bin .add (.v 1) (.k (.int 1))) (.v 0)) (.cmp .notin (.bin .add (.v 1) (.k (.int 2))) (.v 0))))))] }
/-- where a leap may begin -/
def can (ps : List Nat) (p : Nat) : Bool := decide (p + 1 ∈ ps) && !decide (p + 2 ∈ ps)
def lps (ps : List Nat) : List Nat := ps.filter (can ps)
theorem can_ev (Γ : Gam) (ps : List Nat) (p : Nat) (i : Nat) (ρ : Ro) (hi : rd ρ i = some (I p)) (hj : ∀ b, ρ.at i ≠ b → True) (k : Nat) (hk : rd ρ k = some (Pg ps)) : evB Γ (.and_ (.cmp .isin (.bin .add (.v i) (.k (.int 1))) (.v k)) (.cmp .notin (.bin .add (.v i) (.k (.int 2))) (.v k))) ρ = some (can ps p, ρ) := by
  have ev_v : ∀ j d, rd ρ j = some d → ev Γ (.v j) ρ = some (.s j, ρ) := fun j d h => by
    show (match ρ.at j with | .un => none | _ => some (Hd.s j, ρ)) = _
    unfold rd at h
    cases q : ρ.at j with
    | un => rw [q] at h; cases h
    | _ => rfl
  have a1 : ev Γ (.bin .add (.v i) (.k (.int 1))) ρ = some (.d (I (p + 1)) false, ρ) := bi_of (g := bin2 .add) (ev_v i _ hi) rfl hi rfl (by show some (PyData.int ((p : Int) + 1), false) = _; rfl)
  have a2 : ev Γ (.bin .add (.v i) (.k (.int 2))) ρ = some (.d (I (p + 2)) false, ρ) := bi_of (g := bin2 .add) (ev_v i _ hi) rfl hi rfl (by show some (PyData.int ((p : Int) + 2), false) = _; rfl)
  have c1 : cmpD .isin (I (p + 1)) (Pg ps) = some (decide (p + 1 ∈ ps)) := in_I _ _
  have c2 : cmpD .notin (I (p + 2)) (Pg ps) = some (!decide (p + 2 ∈ ps)) := by
    show (inD (I (p + 2)) (Pg ps)).map (!·) = _
    rw [in_I]; rfl
  unfold can
  cases q : decide (p + 1 ∈ ps) with
  | false =>
    rw [q] at c1
    exact evB_run (and_f (cmp_of a1 (ev_v k _ hk) rfl hk c1) rfl) rfl
  | true =>
    rw [q] at c1
    exact evB_run (and_t (cmp_of a1 (ev_v k _ hk) rfl hk c1) rfl (cmp_of a2 (ev_v k _ hk) rfl hk c2) rfl) rfl
def pI (f : Nat → Bool) (d : D) : Option D := match d with | .int i => if f i.toNat then some (I i.toNat) else none | _ => none
theorem pI_I (f : Nat → Bool) (p : Nat) : pI f (I p) = if f p then some (I p) else none := by
  show (if f (p : Int).toNat then some (I (p : Int).toNat) else none) = _
  rw [Int.toNat_natCast]
theorem filterMap_I (ps : List Nat) (f : Nat → Bool) : (ps.map I).filterMap (pI f) = (ps.filter f).map I := by
  induction ps with
  | nil => rfl
  | cons p ps ih =>
    rw [List.map_cons, List.filterMap_cons, List.filter_cons, pI_I]
    cases f p with
    | true => simp [ih]
    | false => simp [ih]
theorem lps_le (ps : List Nat) : (lps ps).length ≤ ps.length := List.length_filter_le ..
theorem line_leaps (Γ : Gam) (hn : ∀ ps, Okp ps → Γ "need_line" [Pg ps] = some (.none, false, [])) {ps : List Nat} (hp : Okp ps) : runDf Γ f_line_leaps [Pg ps] = some (.tuple ((lps ps).map I), false, []) := by
  refine runDf_of (r := [.bo (Pg ps)]) rfl ?_ fun _ => rfl
  show Run Γ _ [.bo (Pg ps), .un] _
  refine run_nx (ρ1 := [.bo (Pg ps), .un]) (ex_of (call_of (hs := [(.s 0, .b)]) (ds := [Pg ps]) rfl rfl (hn ps hp) rfl)) ?_
  obtain ⟨ρ2, ⟨s, rfl⟩, e⟩ := comp_of (Γ := Γ) (elt := .v 1) (c := .and_ (.cmp .isin (.bin .add (.v 1) (.k (.int 1))) (.v 0)) (.cmp .notin (.bin .add (.v 1) (.k (.int 2))) (.v 0))) (tg := .nm 1) (it := .seq (.v 0)) (ρ := [.bo (Pg ps), .un]) (ρ1 := [.bo (Pg ps), .un]) (ds := ps.map I) (xs := (lps ps).map I) rfl rfl (fun r => ∃ s, r = [.bo (Pg ps), s]) ⟨_, rfl⟩ (pI (can ps))
    (by
      intro d hd r hr
      obtain ⟨s, rfl⟩ := hr
      obtain ⟨p, _, rfl⟩ := List.mem_map.1 hd
      refine ⟨[.bo (Pg ps), .va (I p)], can ps p, [.bo (Pg ps), .va (I p)], rfl, can_ev Γ ps p 1 _ rfl (fun _ _ => trivial) 0 rfl, ?_⟩
      cases q : can ps p with
      | false => exact .inl ⟨rfl, by rw [pI_I, q]; rfl, _, rfl⟩
      | true => exact .inr ⟨rfl, .s 1, [.bo (Pg ps), .va (I p)], I p, false, [.bo (Pg ps), .va (I p)], rfl, rfl, by rw [pI_I, q]; rfl, _, rfl⟩)
    (filterMap_I ps (can ps)) (by rw [List.length_map]; have := lps_le ps; have := hp.len; unfold line; omega)
  have e2 : ev Γ (.tupI (.sq (.comp (.v 1) (.nm 1) (.seq (.v 0)) (.and_ (.cmp .isin (.bin .add (.v 1) (.k (.int 1))) (.v 0)) (.cmp .notin (.bin .add (.v 1) (.k (.int 2))) (.v 0)))))) [.bo (Pg ps), .un] = some (.d (.tuple ((lps ps).map I)) false, [.bo (Pg ps), .un]) := by
    show ((evI Γ (.sq _) [.bo (Pg ps), .un]).bind _) = _
    show (((ev Γ (.comp _ _ _ _) [.bo (Pg ps), .un]).bind _).bind _) = _
    rw [e]
    show (if ((lps ps).map I).length ≤ line then _ else none) = _
    rw [if_pos (by rw [List.length_map]; have := lps_le ps; have := hp.len; unfold line; omega)]
    rfl
  exact run_rt (ret_of e2) (.inl ⟨_, rfl⟩)
end LT.Ln
end
section
set_option linter.all false
set_option maxRecDepth 100000
namespace LT.Ln
open PySem LT
theorem evI_sq {Γ : Gam} {e : Ex} {ρ ρ1 ρ2 : Ro} {h : Hd} {x : D} {ds : List D} (e1 : ev Γ e ρ = some (h, ρ1)) (e2 : wlk ρ1 h = some (x, ρ2)) (e3 : seq? x = some ds) : evI Γ (.sq e) ρ = some (ds, ρ2) := by
  show ((ev Γ e ρ).bind _) = _
  rw [e1]
  show ((wlk ρ1 h).bind _) = _
  rw [e2]
  show ((seq? x).bind _) = _
  rw [e3]
  rfl
theorem evI_lst {Γ : Gam} {e : Ex} {ρ ρ1 ρ2 : Ro} {h : Hd} {ds : List D} (e1 : ev Γ e ρ = some (h, ρ1)) (e2 : wlk ρ1 h = some (.list ds, ρ2)) : evI Γ (.lst e) ρ = some (ds, ρ2) := by
  show ((ev Γ e ρ).bind _) = _
  rw [e1]
  show ((wlk ρ1 h).bind _) = _
  rw [e2]
  rfl
theorem srt_of {Γ : Gam} {it : It} {ρ ρ1 : Ro} {ds : List D} {d : D} (e1 : evI Γ it ρ = some (ds, ρ1)) (e2 : srtD ds = some d) : ev Γ (.srt it) ρ = some (.d d true, ρ1) := by
  show ((evI Γ it ρ).bind _) = _
  rw [e1]
  show ((srtD ds).bind _) = _
  rw [e2]
  rfl
theorem tupI_of {Γ : Gam} {it : It} {ρ ρ1 : Ro} {ds : List D} (e1 : evI Γ it ρ = some (ds, ρ1)) (e2 : ds.length ≤ line) : ev Γ (.tupI it) ρ = some (.d (.tuple ds) false, ρ1) := by
  show ((evI Γ it ρ).bind _) = _
  rw [e1]
  show (if ds.length ≤ line then _ else none) = _
  rw [if_pos e2]
theorem lstI_of {Γ : Gam} {it : It} {ρ ρ1 : Ro} {ds : List D} (e1 : evI Γ it ρ = some (ds, ρ1)) (e2 : ds.length ≤ line) : ev Γ (.lstI it) ρ = some (.d (.list ds) true, ρ1) := by
  show ((evI Γ it ρ).bind _) = _
  rw [e1]
  show (if ds.length ≤ line then _ else none) = _
  rw [if_pos e2]
theorem le_ints (a b : Int) : PySem.W.dataLe false id (PyData.int a) (PyData.int b) = decide (a ≤ b) := by
  have : PySem.W.dataLe false id (PyData.int a) (PyData.int b) = !PySem.W.dataLt (PyData.int b) (PyData.int a) := rfl
  rw [this, PySem.W.dataLt_int, Bool.eq_iff_iff]
  simp
theorem sortL_ints (xs : List Int) : sortL (xs.map PyData.int) = (xs.mergeSort (fun a b => decide (a ≤ b))).map PyData.int := by
  unfold sortL
  exact (List.map_mergeSort fun a _ b _ => (le_ints a b).symm).symm
theorem sortable_ints (xs : List Int) : sortable (xs.map PyData.int) = true := by
  unfold sortable
  have h1 : alikes (xs.map PyData.int) = true := by
    unfold alikes
    rw [List.all_eq_true]
    intro a ha
    rw [List.all_eq_true]
    intro b hb
    obtain ⟨i, _, rfl⟩ := List.mem_map.1 ha
    obtain ⟨j, _, rfl⟩ := List.mem_map.1 hb
    rfl
  have h2 : ((xs.map PyData.int).all fun d => decide (d.depth ≤ 60)) = true := by
    rw [List.all_eq_true]
    intro a ha
    obtain ⟨i, _, rfl⟩ := List.mem_map.1 ha
    rfl
  have h3 : (xs.map PyData.int).all PyData.plain = true := by
    rw [List.all_eq_true]
    intro a ha
    obtain ⟨i, _, rfl⟩ := List.mem_map.1 ha
    rfl
  rw [h1, h2, h3]
  show (_ || _) = true
  rw [Bool.or_eq_true]
  refine .inr (List.all_eq_true.2 fun a ha => ?_)
  obtain ⟨i, _, rfl⟩ := List.mem_map.1 ha
  rfl
theorem srtD_ints {xs ys : List Int} (hl : xs.length ≤ line) (hp : xs.Perm ys) (hs : ys.Pairwise (· ≤ ·)) : srtD (xs.map PyData.int) = some (.list (ys.map PyData.int)) := by
  unfold srtD
  rw [sortable_ints, List.length_map, decide_eq_true hl]
  show some (PyData.list (sortL _)) = _
  rw [sortL_ints]
  congr 3
  refine List.Perm.eq_of_pairwise (le := (· ≤ ·)) (fun a b _ _ h1 h2 => Int.le_antisymm h1 h2) ?_ hs ((List.mergeSort_perm ..).trans hp)
  have := List.pairwise_mergeSort (le := fun a b : Int => decide (a ≤ b)) (fun a b c h1 h2 => by simp at *; omega) (fun a b => by simp; omega) xs
  exact this.imp (fun h => by simpa using h)
theorem srtD_I {xs ys : List Nat} (hl : xs.length ≤ line) (hp : xs.Perm ys) (hs : ys.Pairwise (· < ·)) : srtD (xs.map I) = some (.list (ys.map I)) := by
  have e : ∀ zs : List Nat, zs.map I = (zs.map Int.ofNat).map PyData.int := fun zs => by rw [List.map_map]; rfl
  rw [e xs, e ys]
  refine srtD_ints (by rw [List.length_map]; exact hl) (hp.map _) ?_
  rw [List.pairwise_map]
  exact hs.imp fun h => by show (_ : Int) ≤ _; simp; omega
/-- the line behind a leap from l -/
def aft (ps : List Nat) (l : Nat) : List Nat := (ps.filter (fun p => !(p == l || p == l + 1)) ++ [l + 2]).mergeSort (fun a b => decide (a ≤ b))
theorem aft_perm (ps : List Nat) (l : Nat) : (ps.filter (fun p => !(p == l || p == l + 1)) ++ [l + 2]).Perm (aft ps l) := (List.mergeSort_perm ..).symm
theorem aft_up {ps : List Nat} {l : Nat} (hp : ps.Pairwise (· < ·)) (hc : l + 2 ∉ ps) : (aft ps l).Pairwise (· < ·) := by
  have h1 : (aft ps l).Pairwise (· ≤ ·) := by
    have := List.pairwise_mergeSort (le := fun a b : Nat => decide (a ≤ b)) (fun a b c h1 h2 => by simp at *; omega) (fun a b => by simp; omega) (ps.filter (fun p => !(p == l || p == l + 1)) ++ [l + 2])
    exact this.imp (fun h => by simpa using h)
  have h2 : (aft ps l).Nodup := by
    refine (aft_perm ps l).nodup_iff.1 ?_
    rw [List.nodup_append]
    refine ⟨(hp.filter _).imp (fun h => by omega), by simp, ?_⟩
    intro a ha b hb
    have := (List.mem_filter.1 ha).1
    simp at hb
    intro e
    subst e hb
    exact hc this
  exact (h1.and h2).imp fun h => by omega
theorem aft_len (ps : List Nat) (l : Nat) : (aft ps l).length ≤ ps.length + 1 := by
  rw [← (aft_perm ps l).length_eq, List.length_append]
  have := List.length_filter_le (fun p => !(p == l || p == l + 1)) ps
  show _ + 1 ≤ _
  omega
theorem mem_aft {ps : List Nat} {l p : Nat} : p ∈ aft ps l ↔ (p ∈ ps ∧ p ≠ l ∧ p ≠ l + 1) ∨ p = l + 2 := by
  rw [← (aft_perm ps l).mem_iff]
  simp
def c_after (i l p : Nat) : Ex := .comp (.v i) (.nm i) (.seq (.v p)) (.cmp .notin (.v i) (.tup [(.v l), (.bin .add (.v l) (.k (.int 1)))]))
def f_line_after : Df := { md := [.b, .a], n := 3, body := [.ret (.tupI (.sq (.srt (.lst (.bin .add (.comp (.v 2) (.nm 2) (.seq (.v 0)) (.cmp .notin (.v 2) (.tup [(.v 1), (.bin .add (.v 1) (.k (.int 1)))]))) (.lst [(.bin .add (.v 1) (.k (.int 2)))]))))))] }
theorem notin2 (p l : Nat) : cmpD .notin (I p) (.tuple [I l, I (l + 1)]) = some (!(p == l || p == l + 1)) := by
  show (inD (I p) (Pg [l, l + 1])).map (!·) = _
  rw [in_I, Option.map_some]
  congr 1
  rw [Bool.eq_iff_iff]
  simp
theorem line_after (Γ : Gam) {ps : List Nat} {l : Nat} (hp : Okp ps) (hc : l + 2 ∉ ps) : runDf Γ f_line_after [Pg ps, I l] = some (Pg (aft ps l), false, []) := by
  refine runDf_of (r := [.bo (Pg ps), .va (I l)]) rfl ?_ fun _ => rfl
  show Run Γ _ [.bo (Pg ps), .va (I l), .un] _
  have hl := hp.len
  have hf := List.length_filter_le (fun p => !(p == l || p == l + 1)) ps
  obtain ⟨ρ2, ⟨s, rfl⟩, e⟩ := comp_of (Γ := Γ) (elt := .v 2) (c := .cmp .notin (.v 2) (.tup [(.v 1), (.bin .add (.v 1) (.k (.int 1)))])) (tg := .nm 2) (it := .seq (.v 0)) (ρ := [.bo (Pg ps), .va (I l), .un]) (ρ1 := [.bo (Pg ps), .va (I l), .un]) (ds := ps.map I) (xs := (ps.filter (fun p => !(p == l || p == l + 1))).map I) rfl rfl (fun r => ∃ s, r = [.bo (Pg ps), .va (I l), s]) ⟨_, rfl⟩ (pI (fun p => !(p == l || p == l + 1)))
    (by
      intro d hd r hr
      obtain ⟨s, rfl⟩ := hr
      obtain ⟨p, _, rfl⟩ := List.mem_map.1 hd
      have hc := notin2 p l
      refine ⟨[.bo (Pg ps), .va (I l), .va (I p)], !(p == l || p == l + 1), [.bo (Pg ps), .va (I l), .va (I p)], rfl, evB_run (cmp_of (x := I p) (y := .tuple [I l, I (l + 1)]) rfl rfl rfl rfl hc) rfl, ?_⟩
      cases q : !(p == l || p == l + 1) with
      | false => exact .inl ⟨rfl, by rw [pI_I, q]; rfl, _, rfl⟩
      | true => exact .inr ⟨rfl, .s 2, [.bo (Pg ps), .va (I l), .va (I p)], I p, false, [.bo (Pg ps), .va (I l), .va (I p)], rfl, rfl, by rw [pI_I, q]; rfl, _, rfl⟩)
    (filterMap_I ps _) (by rw [List.length_map]; unfold line; omega)
  have e1 : ev Γ (.bin .add (.comp (.v 2) (.nm 2) (.seq (.v 0)) (.cmp .notin (.v 2) (.tup [(.v 1), (.bin .add (.v 1) (.k (.int 1)))]))) (.lst [(.bin .add (.v 1) (.k (.int 2)))])) [.bo (Pg ps), .va (I l), .un] = some (.d (.list ((ps.filter (fun p => !(p == l || p == l + 1)) ++ [l + 2]).map I)) true, [.bo (Pg ps), .va (I l), .un]) := by
    refine bi_of (g := bin2 .add) e (by rfl) rfl rfl ?_
    show (if ((ps.filter (fun p => !(p == l || p == l + 1))).map I).length + [I (l + 2)].length ≤ line then _ else none) = _
    rw [if_pos (by rw [List.length_map]; unfold line; show _ + 1 ≤ _; omega), List.map_append]
    rfl
  have hs : srtD ((ps.filter (fun p => !(p == l || p == l + 1)) ++ [l + 2]).map I) = some (.list ((aft ps l).map I)) :=
    srtD_I (by rw [(aft_perm ps l).length_eq]; have := aft_len ps l; unfold line; omega) (aft_perm ps l) (aft_up hp.1 hc)
  have e2 : ev Γ (.tupI (.sq (.srt (.lst (.bin .add (.comp (.v 2) (.nm 2) (.seq (.v 0)) (.cmp .notin (.v 2) (.tup [(.v 1), (.bin .add (.v 1) (.k (.int 1)))]))) (.lst [(.bin .add (.v 1) (.k (.int 2)))])))))) [.bo (Pg ps), .va (I l), .un] = some (.d (Pg (aft ps l)) false, [.bo (Pg ps), .va (I l), .un]) := by
    refine tupI_of (evI_sq (srt_of (evI_lst e1 rfl) hs) rfl rfl) ?_
    rw [List.length_map]; have := aft_len ps l; unfold line; omega
  exact run_rt (ret_of e2) (.inl ⟨_, rfl⟩)
end LT.Ln
end
section
set_option linter.all false
set_option maxRecDepth 100000
/-! Lines of one way: worths, settled standings. Plain. -/
namespace LT.Ln
theorem wv_rec (n : Nat) : wv (n + 2) = wv n + wv (n + 1) := rfl
theorem wv_pos : ∀ n, 0 < wv n
  | 0 => by decide
  | 1 => by decide
  | n + 2 => by have := wv_pos n; rw [wv_rec]; omega
theorem wv_step (n : Nat) : wv n < wv (n + 1) := by
  cases n with
  | zero => decide
  | succ n => have := wv_pos n; rw [wv_rec]; omega
theorem wv_mono {m n : Nat} (h : m ≤ n) : wv m ≤ wv n := by
  induction h with
  | refl => exact Nat.le_refl _
  | step h ih => exact Nat.le_trans ih (Nat.le_of_lt (wv_step _))
theorem wv_lt {m n : Nat} (h : wv m < wv n) : m < n := by
  by_cases q : m < n
  · exact q
  · have := wv_mono (Nat.le_of_not_lt q); omega
theorem wv_dbl (n : Nat) : wv (n + 1) ≤ 2 * wv n := by
  cases n with
  | zero => decide
  | succ n => have := wv_step n; rw [wv_rec]; omega
theorem val_nil : val [] = 0 := rfl
theorem val_app (a b : List Nat) : val (a ++ b) = val a + val b := by unfold val; rw [List.map_append, List.sum_append]
theorem val_one (a : Nat) : val [a] = wv a := by simp [val]
theorem val_cons (a : Nat) (l : List Nat) : val (a :: l) = wv a + val l := by simp [val]
theorem val_perm {a b : List Nat} (h : a.Perm b) : val a = val b := (h.map wv).sum_nat
theorem wv_le_val {a : Nat} {l : List Nat} (h : a ∈ l) : wv a ≤ val l := by
  induction l with
  | nil => cases h
  | cons b l ih =>
    rw [val_cons]
    rcases List.mem_cons.1 h with rfl | h
    · omega
    · have := ih h; omega
/-- rising, no two side by side, below k -/
def Zk (k : Nat) (ps : List Nat) : Prop := ps.Pairwise (fun a b => a + 1 < b) ∧ ∀ p ∈ ps, p < k
theorem gr_Z : ∀ (k j v : Nat), v < wv j → j ≤ k → val (gr k v) = v ∧ Zk j (gr k v)
  | 0, j, v, h, hj => by
    have : j = 0 := by omega
    subst this
    have : v = 0 := by have : wv 0 = 1 := rfl; omega
    subst this
    exact ⟨rfl, List.Pairwise.nil, fun p hp => by cases hp⟩
  | k + 1, j, v, h, hj => by
    rw [gr_succ]
    by_cases q : wv k ≤ v
    · rw [if_pos q]
      have hj2 : j = k + 1 := by
        have : wv k < wv j := by omega
        have := wv_lt this
        omega
      subst hj2
      have hd := wv_dbl k
      cases k with
      | zero =>
        obtain ⟨h1, h2, h3⟩ := gr_Z 0 0 (v - wv 0) (by have : wv 0 = 1 := rfl; have : wv 1 = 2 := rfl; omega) (Nat.le_refl _)
        refine ⟨by rw [val_app, h1, val_one]; omega, ?_⟩
        show Zk 1 ([] ++ [0])
        exact ⟨by simp, by simp⟩
      | succ k =>
        have hr : wv (k + 1 + 1) = wv k + wv (k + 1) := rfl
        have hs := wv_step k
        obtain ⟨h1, h2, h3⟩ := gr_Z (k + 1) k (v - wv (k + 1)) (by omega) (by omega)
        refine ⟨by rw [val_app, h1, val_one]; omega, ?_, ?_⟩
        · rw [List.pairwise_append]
          refine ⟨h2, by simp, fun a ha b hb => ?_⟩
          have := h3 a ha
          simp at hb
          omega
        · intro p hp
          rcases List.mem_append.1 hp with hp | hp
          · have := h3 p hp; omega
          · simp at hp; omega
    · rw [if_neg q]
      by_cases hj2 : j = k + 1
      · subst hj2
        obtain ⟨h1, h2, h3⟩ := gr_Z k k v (by omega) (Nat.le_refl _)
        exact ⟨h1, h2, fun p hp => by have := h3 p hp; omega⟩
      · exact gr_Z k j v h (by omega)
theorem Z_last {k : Nat} {ps : List Nat} (h : Zk (k + 1) ps) : (Zk k ps ∧ k ∉ ps) ∨ ∃ qs, ps = qs ++ [k] ∧ Zk (k - 1) qs := by
  by_cases hk : k ∈ ps
  · refine .inr ?_
    rcases List.eq_nil_or_concat ps with rfl | ⟨qs, x, rfl⟩
    · cases hk
    · have hx : x = k := by
        by_cases e : k = x
        · exact e.symm
        · have hq : k ∈ qs := by
            rcases List.mem_append.1 (List.concat_eq_append ▸ hk) with h | h
            · exact h
            · simp at h; exact absurd h e
          have h1 := h.1
          rw [List.concat_eq_append, List.pairwise_append] at h1
          have := h1.2.2 k hq x (by simp)
          have := h.2 x (by simp)
          omega
      subst hx
      refine ⟨qs, by simp, ?_, ?_⟩
      · have h1 := h.1
        rw [List.concat_eq_append, List.pairwise_append] at h1
        exact h1.1
      · intro p hp
        have h1 := h.1
        rw [List.concat_eq_append, List.pairwise_append] at h1
        have := h1.2.2 p hp x (by simp)
        omega
  · exact .inl ⟨⟨h.1, fun p hp => by
      have := h.2 p hp
      by_cases e : p = k
      · subst e; exact absurd hp hk
      · omega⟩, hk⟩
theorem Zk.mono {j k : Nat} {ps : List Nat} (h : Zk j ps) (l : j ≤ k) : Zk k ps := ⟨h.1, fun p hp => by have := h.2 p hp; omega⟩
theorem Z_lt : ∀ (k : Nat) (ps : List Nat), Zk k ps → val ps < wv k
  | 0, ps, h => by
    cases ps with
    | nil => decide
    | cons p ps => exact absurd (h.2 p (by simp)) (by omega)
  | 1, ps, h => by
    rcases Z_last h with ⟨h, _⟩ | ⟨qs, rfl, h'⟩
    · have := Z_lt 0 ps h; have : wv 0 = 1 := rfl; have : wv 1 = 2 := rfl; omega
    · have := Z_lt 0 qs h'; have : wv 0 = 1 := rfl; have : wv 1 = 2 := rfl; rw [val_app, val_one]; omega
  | k + 2, ps, h => by
    have hr : wv (k + 2) = wv k + wv (k + 1) := rfl
    rcases Z_last h with ⟨h, _⟩ | ⟨qs, rfl, h'⟩
    · have := Z_lt (k + 1) ps h; have := wv_pos k; omega
    · have := Z_lt k qs h'; rw [val_app, val_one]; omega
/-- a settled standing is the least one of its worth -/
theorem Z_gr : ∀ (k : Nat) (ps : List Nat), Zk k ps → gr k (val ps) = ps
  | 0, ps, h => by
    cases ps with
    | nil => rfl
    | cons p ps => exact absurd (h.2 p (by simp)) (by omega)
  | k + 1, ps, h => by
    rcases Z_last h with ⟨h, _⟩ | ⟨qs, rfl, h'⟩
    · have := Z_lt k ps h
      rw [gr_succ, if_neg (by omega)]
      exact Z_gr k ps h
    · rw [val_app, val_one, gr_succ, if_pos (by omega), Nat.add_sub_cancel, Z_gr k qs (Zk.mono h' (by omega))]
/-- no leap can be done: no two pegs side by side -/
theorem lps_nil {ps : List Nat} (h : lps ps = []) : ∀ p, p ∈ ps → p + 1 ∉ ps := by
  have h0 : ∀ p ∈ ps, p + 1 ∈ ps → p + 2 ∈ ps := fun p hp h1 => by
    have : ¬ can ps p = true := by
      intro hc
      have : p ∈ lps ps := List.mem_filter.2 ⟨hp, hc⟩
      rw [h] at this
      cases this
    unfold can at this
    by_cases h2 : p + 2 ∈ ps
    · exact h2
    · exact absurd (by rw [decide_eq_true h1, decide_eq_false h2]; rfl) this
  intro p hp h1
  have all : ∀ n, p + n ∈ ps ∧ p + n + 1 ∈ ps := by
    intro n
    induction n with
    | zero => exact ⟨hp, h1⟩
    | succ n ih => exact ⟨ih.2, h0 _ ih.1 ih.2⟩
  have bd : ∀ l : List Nat, ∃ m, ∀ x ∈ l, x < m := by
    intro l
    induction l with
    | nil => exact ⟨0, by simp⟩
    | cons x l ih =>
      obtain ⟨m, hm⟩ := ih
      exact ⟨max (x + 1) m, fun y hy => by
        rcases List.mem_cons.1 hy with rfl | hy
        · omega
        · have := hm y hy; omega⟩
  obtain ⟨m, hm⟩ := bd ps
  have := hm _ (all m).1
  omega
theorem lps_Z {ps : List Nat} {k : Nat} (up : ps.Pairwise (· < ·)) (hk : ∀ p ∈ ps, p < k) (h : lps ps = []) : Zk k ps := by
  refine ⟨?_, hk⟩
  have n := lps_nil h
  refine up.imp_of_mem ?_
  intro a b ha hb hab
  have := n a ha
  by_cases e : b = a + 1
  · subst e; exact absurd hb this
  · omega
theorem Z_lps {ps : List Nat} {k : Nat} (h : Zk k ps) : lps ps = [] := by
  refine List.filter_eq_nil_iff.2 fun p hp hc => ?_
  unfold can at hc
  rw [Bool.and_eq_true] at hc
  have h1 : p + 1 ∈ ps := of_decide_eq_true hc.1
  have key : ∀ (l : List Nat), l.Pairwise (fun a b => a + 1 < b) → p ∈ l → p + 1 ∈ l → False := by
    intro l
    induction l with
    | nil => intro _ h; cases h
    | cons x l ih =>
      intro hpw h1 h2
      rw [List.pairwise_cons] at hpw
      rcases List.mem_cons.1 h1 with rfl | h1
      · rcases List.mem_cons.1 h2 with h2 | h2
        · omega
        · have := hpw.1 _ h2; omega
      · rcases List.mem_cons.1 h2 with h2 | h2
        · have := hpw.1 _ h1; omega
        · exact ih hpw.2 h1 h2
  exact key ps h.1 hp h1
theorem val_filter (ps : List Nat) (f : Nat → Bool) : val (ps.filter f) + val (ps.filter fun p => !f p) = val ps := by
  induction ps with
  | nil => rfl
  | cons p ps ih =>
    rw [List.filter_cons, List.filter_cons, val_cons]
    cases f p <;> simp [val_cons] <;> omega
theorem two_of {ps : List Nat} (up : ps.Pairwise (· < ·)) {l : Nat} (h1 : l ∈ ps) (h2 : l + 1 ∈ ps) : (ps.filter fun p => (p == l || p == l + 1)) = [l, l + 1] := by
  induction ps with
  | nil => cases h1
  | cons p ps ih =>
    rw [List.pairwise_cons] at up
    rcases List.mem_cons.1 h1 with rfl | h1
    · rw [List.filter_cons, if_pos (by simp)]
      congr 1
      have h2 : l + 1 ∈ ps := by
        rcases List.mem_cons.1 h2 with h2 | h2
        · omega
        · exact h2
      clear ih h1
      induction ps with
      | nil => cases h2
      | cons q qs ih =>
        have u2 := up.2
        rw [List.pairwise_cons] at u2
        rcases List.mem_cons.1 h2 with rfl | h2
        · rw [List.filter_cons, if_pos (by simp)]
          congr 1
          refine List.filter_eq_nil_iff.2 fun x hx => ?_
          have := u2.1 x hx
          simp; omega
        · have hq := up.1 q (by simp)
          have := u2.1 _ h2
          rw [List.filter_cons, if_neg (by simp; omega)]
          exact ih ⟨fun x hx => up.1 x (by simp [hx]), u2.2⟩ (by simp [h2]) h2
    · have := up.1 _ h1
      have h2 : l + 1 ∈ ps := by
        rcases List.mem_cons.1 h2 with h2 | h2
        · omega
        · exact h2
      rw [List.filter_cons, if_neg (by simp; omega)]
      exact ih up.2 h1 h2
theorem aft_val {ps : List Nat} {l : Nat} (up : ps.Pairwise (· < ·)) (h1 : l ∈ ps) (h2 : l + 1 ∈ ps) : val (aft ps l) = val ps ∧ (aft ps l).length + 1 = ps.length := by
  have e := two_of up h1 h2
  have v := val_filter ps fun p => (p == l || p == l + 1)
  rw [← val_perm (aft_perm ps l), ← (aft_perm ps l).length_eq, val_app, val_one]
  rw [e, val_cons, val_one] at v
  refine ⟨by rw [wv_rec]; omega, ?_⟩
  have n : (ps.filter fun p => (p == l || p == l + 1)).length + (ps.filter fun p => !(p == l || p == l + 1)).length = ps.length := by
    rw [← List.countP_eq_length_filter, ← List.countP_eq_length_filter]
    rw [List.length_eq_countP_add_countP (fun p => (p == l || p == l + 1)) (l := ps)]
    congr 1
    exact List.countP_congr fun x _ => by simp
  rw [e] at n
  rw [List.length_append]
  simp at n ⊢
  omega
/-- what stays so in each play -/
def Stp (v : Nat) (ps : List Nat) : Prop := ps.Pairwise (· < ·) ∧ val ps = v
theorem Stp.lt {v : Nat} {ps : List Nat} (h : Stp v ps) (hv : v < wv 41) : ∀ p ∈ ps, p < 41 := fun p hp => by
  have := wv_le_val hp
  rw [h.2] at this
  exact wv_lt (by omega)
theorem Stp.ok {v : Nat} {ps : List Nat} (h : Stp v ps) (hv : v < wv 41) : Okp ps := ⟨h.1, fun p hp => by have := h.lt hv p hp; omega⟩
theorem mem_lps {ps : List Nat} {l : Nat} : l ∈ lps ps ↔ l ∈ ps ∧ l + 1 ∈ ps ∧ l + 2 ∉ ps := by
  unfold lps can
  rw [List.mem_filter]
  simp
theorem Stp.aft {v : Nat} {ps : List Nat} (h : Stp v ps) {l : Nat} (hl : l ∈ lps ps) : Stp v (aft ps l) ∧ (LT.Ln.aft ps l).length + 1 = ps.length := by
  obtain ⟨h1, h2, h3⟩ := mem_lps.1 hl
  have := aft_val h.1 h1 h2
  exact ⟨⟨aft_up h.1 h3, this.1.trans h.2⟩, this.2⟩
theorem Stp.done {v : Nat} {ps : List Nat} (h : Stp v ps) (hv : v < wv 41) (hl : lps ps = []) : gr 42 v = ps := by
  have := Z_gr 42 ps ((lps_Z h.1 (h.lt hv) hl).mono (by omega))
  rw [h.2] at this
  exact this
theorem Stp.gr {v : Nat} (hv : v < wv 41) : Stp v (gr 42 v) ∧ lps (LT.Ln.gr 42 v) = [] := by
  have := gr_Z 42 41 v hv (by omega)
  exact ⟨⟨this.2.1.imp (fun h => by omega), this.1⟩, Z_lps this.2⟩
end LT.Ln
end
section
set_option linter.all false
set_option maxRecDepth 100000
open PySem LT Cd
local macro_rules
  | `(tactic| simp_arith [$args,*]) => `(tactic| simp only [Run_Bd, Run_nil, Then_nx, Then_rt, Then_bk, Then_ct, Bd_sxs, Bd_some, Bd_bind, Bd_map, LT.Bd_ite, Bd_none, ite_and, ite_or, imp_f, decide_not, Bool.decide_eq_true, Ret_rt, Ret_nx, Is_eq, ios_nil, ios_a, ios_b, ios_io, ioD_io, LP_nx, LP_ct, LP_bk, LP_rt,
      s_asg, s_asgT, s_par, s_ifs, s_setI, s_setA, s_app, s_upd, s_ex, s_ret, s_ret0, s_brk, s_cnt, s_pas, rtO_d, rtO_s, rtS_ow, rtS_va, rtS_bo, evO_nil, evO_cons, setO_nil, setO_cons, setAll_nil, setAll_cons, bindT_nm, bindT_tp,
      x_v, x_k, x_bin, x_neg, x_cmp, x_chn, x_and, x_or, x_not, x_ite, x_tup, x_lst, x_dct0, x_dct1, x_ix, x_slc, x_rev, x_att, x_call, x_len, x_int, x_sum, x_any, x_all, x_min, x_max, x_min2, x_max2, x_abs, x_str, x_isi, x_idx, x_tupI, x_lstI, x_srt, x_srtS, x_srtK, x_lenS,
      evs_nil, evs_cons, evAs_nil, evAs_a, evAs_b, evAs_io, callG_ok, agv_nil, agv_co, arg1_a, arg1_b, arg1_io, ioS_nil, ioS_io, ioS_a, ioS_b, boS_nil, boS_io, boS_a, boS_bs, boS_bd, putIo_nil, putIo_cons,
      i_seq, i_sq, i_lst, i_rng, i_enum, i_zip, seq_t, seq_l, items_t, items_l, lst_l, ent_t, ent_l, isL_l,
      rd_va, rd_ow, rd_io, rd_bo, rd_su, at_ze, at_su, own_io, own_ow, own_su, ownS_t, ownS_f, esc_s, esc_d, escS_va, escS_ow, escS_bo, flat_int, flat_bool, flat_tuple, flat_none, flat_cd, flat_pr, flat_lp, wlk_s, wlk_d, wlkS_va, wlkS_ow, wlkS_bo, get_d, get_s,
      un1_e, bi1_e, sl1_e, okPart_i, okPart_n, isNoneK, val1_e, bool1_e, intD_int, negD_int, notD_bool, absD_int, asB_b, boolH_e, Option.bind_some, Option.map_some, Option.bind_none, Option.map_none, Option.isSome_some, Option.isSome_map,
      nodupN, disj, List.all_nil, List.all_cons, List.contains_nil, List.contains_cons, Bool.and_self, Bool.and_true, Bool.true_and, Bool.not_false, Bool.not_true, Bool.false_and, Bool.and_false,
      List.set_cons_zero, List.set_cons_succ, List.length_cons, List.length_nil, List.length_map, List.isEmpty_nil,
      if_true, if_false, eq_self, true_and, and_true, true_implies, false_implies, implies_true, not_true, not_false_eq_true, Bool.false_eq_true, Bool.true_eq_false, and_self, ne_eq, decide_true, decide_false, decide_eq_true_eq, Bool.not_eq_true', decide_eq_false_iff_not, reduceIte,
      cd_nat, cd_int, cd_bool, add_int, sub_int, mod_int, fdiv_int, mulR_int, mulL_int, lt_int, gt_int, le_in, ge_int, eqi_int, nei_int, len_cd, len_t, len_l, seq_cd, items_cd, ent_cd, tup_cd, isi_int_int, isi_int_bool, isi_tup, isi_cd, rev_lst, line_n, ix_nat, ix_natL, ixT0, ixT1, ixT2, ixL0, ixL1, ix_l0, ix_l1, ix_l2, ix_pp0, ix_pp1,
      dep_nat, dep_int, dep_bool, dep_lp, dep_list, dep_pair, Nat.zero_le, Nat.max_self, eq_cd, ne_cd, eq_nil, ne_nil, eq_lst, ne_lst, eq_nilL, ne_nilL, in_cd, ni_cd, in_lst, ni_lst, in_nat, ni_nat, in_natL, ni_natL, is_nn, isn_nn, is_bb, isn_bb, is_in, isn_in, is_tn, isn_tn, sum_nat, sum_int, any_lst, all_lst, Int.reduceLT, Int.reduceLE, Int.reduceNeg, Int.reduceAdd, Int.reduceSub, Int.reduceMul, Int.reduceToNat, Int.reduceEq, Int.reduceNe, Nat.reduceLeDiff, Nat.reduceLT, Nat.reduceAdd, Nat.reduceEqDiff, Nat.reduceBEq, Nat.reduceBNe, $args,*])
/-! one-way lines: the defs -/
namespace LT.Ln
open LT
def Sneed (Γ : Gam) : Prop := ∀ ps, Okp ps → Γ "need_line" [cd ps] = some (.none, false, [])
def Sworth (Γ : Gam) : Prop := ∀ n : Nat, n < 2 ^ 60 → Γ "line_worth" [.int n] = some (.int (wv n), false, [])
def Svalue (Γ : Gam) : Prop := ∀ ps, Okp ps → Γ "line_value" [cd ps] = some (.int (val ps), false, [])
def Sleast (Γ : Gam) : Prop := ∀ v : Nat, Γ "least_line" [.int v] = some (cd (gr 42 v), false, [])
def Ssettled (Γ : Gam) : Prop := ∀ ps, Okp ps → Γ "settled" [cd ps] = some (cd (gr 42 (val ps)), false, [])
def Smany (Γ : Gam) : Prop := ∀ ps, Okp ps → Γ "many_leaps" [cd ps] = some (.int ((ps.length : Int) - ((gr 42 (val ps)).length : Int)), false, [])
def Smeet (Γ : Gam) : Prop := ∀ ps qs, Okp ps → Okp qs → Γ "do_meet" [cd ps, cd qs] = some (.bool (decide (val ps = val qs)), false, [])
def Sleaps (Γ : Gam) : Prop := ∀ ps, Okp ps → Γ "line_leaps" [cd ps] = some (cd (lps ps), false, [])
def Safter (Γ : Gam) : Prop := ∀ ps (l : Nat), Okp ps → l + 2 ∉ ps → Γ "line_after" [cd ps, .int l] = some (cd (aft ps l), false, [])
theorem c_leaps {Γ : Gam} {ps : List Nat} (hl : ps.length ≤ 16777216) {ρ : Ro} {i k : Nat} (fr : ((ρ.at i).free && decide (i < ρ.length)) = true) (hk : rd ρ k = some (cd ps)) (hik : k ≠ i) (hw : wlkS (ρ.at k) = some (cd ps, ρ.at k)) (hw2 : ρ.set k (ρ.at k) = ρ) :
    ev Γ (.comp (.v i) (.nm i) (.seq (.v k)) (.and_ (.cmp .isin (.bin .add (.v i) (.k (.int 1))) (.v k)) (.cmp .notin (.bin .add (.v i) (.k (.int 2))) (.v k)))) ρ = some (.d (.list ((lps ps).map cd)) true, ρ) := by
  have hi : i < ρ.length := by
    rw [Bool.and_eq_true] at fr
    exact of_decide_eq_true fr.2
  have at_set : ∀ x, Ro.at (ρ.set i x) i = x := fun x => by
    unfold Ro.at
    rw [List.getD_eq_getElem?_getD, List.getElem?_set_self hi]; rfl
  have at_k : ∀ x, Ro.at (ρ.set i x) k = ρ.at k := fun x => by
    unfold Ro.at
    rw [List.getD_eq_getElem?_getD, List.getD_eq_getElem?_getD, List.getElem?_set_ne (Ne.symm hik)]
  have r_i : ∀ x, rd (ρ.set i (.va x)) i = some x := fun x => by unfold rd; rw [at_set]
  have r_k : ∀ x, rd (ρ.set i x) k = some (cd ps) := fun x => by
    rw [← hk]; unfold rd; rw [at_k]
  refine x_comp1 (l := ps) (enc := cd) (can ps) cd ?_ fr ?_ (Nat.le_trans (List.length_filter_le ..) hl)
  · simp_arith [hk, hw, hw2]
  · intro a _
    simp_arith [r_i, r_k, in_nat1, ni_nat2, can, at_set, set_set]
theorem settling_go {Γ : Gam} : True := trivial
def stl : Nat → List Nat → List Nat
  | 0, _ => []
  | n + 1, here => match (lps here).getLast? with
    | some l => l :: stl n (aft here l)
    | none => []
def f_settling : Df := { md := [.a], n := 6, body := [.ex (.call "need_line" [.b (.v 0)]), .par [1, 2] [(.lst []), (.v 0)], .for_ (.nm 3) (.rng [(.call "many_leaps" [.b (.v 0)])]) [.asg 4 (.ix (.comp (.v 5) (.nm 5) (.seq (.v 2)) (.and_ (.cmp .isin (.bin .add (.v 5) (.k (.int 1))) (.v 2)) (.cmp .notin (.bin .add (.v 5) (.k (.int 2))) (.v 2)))) (.neg (.k (.int 1)))), .app 1 (.v 4), .asg 2 (.call "line_after" [.b (.v 2), .a (.v 4)])], .ret (.tupI (.sq (.v 1)))] }
theorem rng1 {n : Nat} (h : n < 1152921504606846976) : rngD [.int n] = some ((List.range n).map cd) := by
  show rngL 0 n 1 = _
  rw [rng_up (by decide) (by omega), Int.sub_zero, Int.toNat_natCast]
  congr 1
  exact List.map_congr_left fun a _ => by simp [cd_nat]
theorem stp_last {v : Nat} {ps : List Nat} (h : Stp v ps) (hv : v < wv 41) (hl : (gr 42 v).length < ps.length) : ∃ l, (lps ps).getLast? = some l ∧ l ∈ lps ps := by
  cases e : (lps ps).getLast? with
  | none =>
    rw [List.getLast?_eq_none_iff] at e
    rw [h.done hv e] at hl
    omega
  | some l => exact ⟨l, rfl, List.mem_of_getLast? e⟩
theorem settling {Γ : Gam} (hn : Sneed Γ) (hm : Smany Γ) (ha : Safter Γ) {ps : List Nat} {v n : Nat} (hs : Stp v ps) (hv : v < wv 41) (e : (gr 42 v).length + n = ps.length) : runDf Γ f_settling [cd ps] = some (cd (stl n ps), false, []) := by
  have ok := hs.ok hv
  have hl := ok.len
  have em := hm ps ok
  rw [hs.2, show ((ps.length : Int) - ((gr 42 v).length : Int)) = (n : Nat) by omega] at em
  refine runDf_is (r := [.va (cd ps)]) rfl ?_
  show Run Γ _ [.va (cd ps), .un, .un, .un, .un, .un] _
  simp_arith [f_settling, hn ps ok]
  refine Bd_for (l := List.range n) (enc := cd) (ρ1 := [.va (cd ps), .ow (.list []), .va (cd ps), .un, .un, .un]) (by simp_arith [em, rng1 (show n < 1152921504606846976 by omega)]) (fun i ρ => ∃ here found t3 t4, ρ = [.va (cd ps), .ow (.list (found.map cd)), .va (cd here), t3, t4, .un] ∧ Stp v here ∧ here.length + i = ps.length ∧ found ++ stl (n - i) here = stl n ps ∧ found.length ≤ i) ⟨ps, [], .un, .un, rfl, hs, rfl, by simp, Nat.le_refl _⟩ ?_ ?_
  · rintro i hi ρ ⟨here, found, t3, t4, rfl, h1, h2, h3, h4⟩
    rw [List.length_range] at hi
    obtain ⟨l, e1, e2⟩ := stp_last h1 hv (by omega)
    have ok2 := h1.ok hv
    have hl2 := ok2.len
    have ea := ha here l ok2 (mem_lps.1 e2).2.2
    simp_arith [List.getElem_range]
    rw [c_leaps (ps := here) (by omega) rfl rfl (by decide) rfl rfl]
    simp_arith [ix_lastL, e1, ea]
    refine ⟨fun _ => ⟨aft here l, found ++ [l], _, _, by rw [List.map_append]; rfl, (h1.aft e2).1, by have := (h1.aft e2).2; omega, ?_, by simp; omega⟩, by omega⟩
    rw [← h3, show n - i = (n - (i + 1)) + 1 by omega, stl, e1]
    simp
  · rintro ρ ⟨here, found, t3, t4, rfl, h1, h2, h3, h4⟩
    rw [List.length_range] at h3 h4
    rw [Nat.sub_self, stl, List.append_nil] at h3
    subst h3
    simp_arith []
    omega
end LT.Ln
end
section
set_option linter.all false
set_option maxRecDepth 100000
open PySem LT Cd
local macro_rules
  | `(tactic| simp_arith [$args,*]) => `(tactic| simp only [Run_Bd, Run_nil, Then_nx, Then_rt, Then_bk, Then_ct, Bd_sxs, Bd_some, Bd_bind, Bd_map, LT.Bd_ite, Bd_none, ite_and, ite_or, imp_f, decide_not, Bool.decide_eq_true, Ret_rt, Ret_nx, Is_eq, ios_nil, ios_a, ios_b, ios_io, ioD_io, LP_nx, LP_ct, LP_bk, LP_rt,
      s_asg, s_asgT, s_par, s_ifs, s_setI, s_setA, s_app, s_upd, s_ex, s_ret, s_ret0, s_brk, s_cnt, s_pas, rtO_d, rtO_s, rtS_ow, rtS_va, rtS_bo, evO_nil, evO_cons, setO_nil, setO_cons, setAll_nil, setAll_cons, bindT_nm, bindT_tp,
      x_v, x_k, x_bin, x_neg, x_cmp, x_chn, x_and, x_or, x_not, x_ite, x_tup, x_lst, x_dct0, x_dct1, x_ix, x_slc, x_rev, x_att, x_call, x_len, x_int, x_sum, x_any, x_all, x_min, x_max, x_min2, x_max2, x_abs, x_str, x_isi, x_idx, x_tupI, x_lstI, x_srt, x_srtS, x_srtK, x_lenS,
      evs_nil, evs_cons, evAs_nil, evAs_a, evAs_b, evAs_io, callG_ok, agv_nil, agv_co, arg1_a, arg1_b, arg1_io, ioS_nil, ioS_io, ioS_a, ioS_b, boS_nil, boS_io, boS_a, boS_bs, boS_bd, putIo_nil, putIo_cons,
      i_seq, i_sq, i_lst, i_rng, i_enum, i_zip, seq_t, seq_l, items_t, items_l, lst_l, ent_t, ent_l, isL_l,
      rd_va, rd_ow, rd_io, rd_bo, rd_su, at_ze, at_su, own_io, own_ow, own_su, ownS_t, ownS_f, esc_s, esc_d, escS_va, escS_ow, escS_bo, flat_int, flat_bool, flat_tuple, flat_none, flat_cd, flat_pr, flat_lp, wlk_s, wlk_d, wlkS_va, wlkS_ow, wlkS_bo, get_d, get_s,
      un1_e, bi1_e, sl1_e, okPart_i, okPart_n, isNoneK, val1_e, bool1_e, intD_int, negD_int, notD_bool, absD_int, asB_b, boolH_e, Option.bind_some, Option.map_some, Option.bind_none, Option.map_none, Option.isSome_some, Option.isSome_map,
      nodupN, disj, List.all_nil, List.all_cons, List.contains_nil, List.contains_cons, Bool.and_self, Bool.and_true, Bool.true_and, Bool.not_false, Bool.not_true, Bool.false_and, Bool.and_false,
      List.set_cons_zero, List.set_cons_succ, List.length_cons, List.length_nil, List.length_map, List.isEmpty_nil,
      if_true, if_false, eq_self, true_and, and_true, true_implies, false_implies, implies_true, not_true, not_false_eq_true, Bool.false_eq_true, Bool.true_eq_false, and_self, ne_eq, decide_true, decide_false, decide_eq_true_eq, Bool.not_eq_true', decide_eq_false_iff_not, reduceIte,
      cd_nat, cd_int, cd_bool, add_int, sub_int, mod_int, fdiv_int, mulR_int, mulL_int, lt_int, gt_int, le_in, ge_int, eqi_int, nei_int, len_cd, len_t, len_l, seq_cd, items_cd, ent_cd, tup_cd, isi_int_int, isi_int_bool, isi_tup, isi_cd, rev_lst, line_n, ix_nat, ix_natL, ixT0, ixT1, ixT2, ixL0, ixL1, ix_l0, ix_l1, ix_l2, ix_pp0, ix_pp1,
      dep_nat, dep_int, dep_bool, dep_lp, dep_list, dep_pair, Nat.zero_le, Nat.max_self, eq_cd, ne_cd, eq_nil, ne_nil, eq_lst, ne_lst, eq_nilL, ne_nilL, in_cd, ni_cd, in_lst, ni_lst, in_nat, ni_nat, in_natL, ni_natL, is_nn, isn_nn, is_bb, isn_bb, is_in, isn_in, is_tn, isn_tn, sum_nat, sum_int, any_lst, all_lst, Int.reduceLT, Int.reduceLE, Int.reduceNeg, Int.reduceAdd, Int.reduceSub, Int.reduceMul, Int.reduceToNat, Int.reduceEq, Int.reduceNe, Nat.reduceLeDiff, Nat.reduceLT, Nat.reduceAdd, Nat.reduceEqDiff, Nat.reduceBEq, Nat.reduceBNe, $args,*])
/-! k90: the law -/
namespace LT.Ln
open LT
def Spick (Γ : Gam) : Prop := ∀ (r : Rw) (l : List D), r.ok → (h : 0 < l.length) → l.length ≤ 16777216 → Γ "_law_pick" [r.d, .list l] = some (l[pk r l.length]'(pk_lt r h), false, [(tk r l.length).2.d])
def Ssettling (Γ : Gam) : Prop := ∀ (ps : List Nat) (v n : Nat), Stp v ps → v < wv 41 → (gr 42 v).length + n = ps.length → Γ "settling" [cd ps] = some (cd (stl n ps), false, [])
def f_law90 : Df := { md := [.a], n := 11, body := [.asg 1 (.lst [(.v 0), (.k (.int 0)), (.k (.int 25290)), (.k (.int 0))]), .for_ (.nm 2) (.rng [(.k (.int 5))]) [.asg 3 (.tupI (.sq (.comp (.v 4) (.nm 4) (.rng [(.k (.int 16))]) (.cmp .gt (.call "_law_taken" [.io 1, .b (.k (.int 3))]) (.k (.int 0)))))), .par [5, 6] [(.v 3), (.k (.int 0))], .for_ (.nm 4) (.rng [(.len (.v 3))]) [.asg 7 (.call "line_leaps" [.b (.v 5)]), .ifs (.cmp .ne (.v 7) (.tup [])) [.asg 8 (.call "_law_pick" [.io 1, .b (.lstI (.sq (.v 7)))]), .asg 9 (.call "line_after" [.b (.v 5), .a (.v 8)]), .ifs (.or_ (.cmp .ne (.v 9) (.tupI (.sq (.srt (.lst (.bin .add (.comp (.v 10) (.nm 10) (.seq (.v 5)) (.cmp .notin (.v 10) (.tup [(.v 8), (.bin .add (.v 8) (.k (.int 1)))]))) (.lst [(.bin .add (.v 8) (.k (.int 2)))]))))))) (.cmp .ne (.call "line_value" [.b (.v 9)]) (.call "line_value" [.b (.v 5)]))) [.ret (.k (.bool false))] [], .par [5, 6] [(.v 9), (.bin .add (.v 6) (.k (.int 1)))]] []], .ifs (.or_ (.cmp .ne (.v 5) (.call "settled" [.b (.v 3)])) (.or_ (.cmp .ne (.v 6) (.call "many_leaps" [.b (.v 3)])) (.or_ (.not_ (.call "do_meet" [.b (.v 5), .b (.v 3)])) (.cmp .ne (.call "line_leaps" [.b (.v 5)]) (.tup []))))) [.ret (.k (.bool false))] [], .asg 5 (.v 3), .for_ (.nm 8) (.seq (.call "settling" [.a (.v 3)])) [.ifs (.cmp .ne (.v 8) (.ix (.call "line_leaps" [.b (.v 5)]) (.neg (.k (.int 1))))) [.ret (.k (.bool false))] [], .asg 5 (.call "line_after" [.b (.v 5), .a (.v 8)])], .ifs (.cmp .ne (.v 5) (.call "settled" [.b (.v 3)])) [.ret (.k (.bool false))] []], .ret (.k (.bool true))] }
theorem val_sub {m l : List Nat} (h : m.Sublist l) : val m ≤ val l := by
  induction h with
  | slnil => exact Nat.le_refl _
  | cons a _ ih => rw [val_cons]; omega
  | cons_cons a _ ih => rw [val_cons, val_cons]; omega
theorem range_stp {m : List Nat} (h : m.Sublist (List.range 16)) : Stp (val m) m ∧ val m < wv 41 := by
  refine ⟨⟨List.Pairwise.sublist h List.pairwise_lt_range, rfl⟩, ?_⟩
  have := val_sub h
  exact Nat.lt_of_le_of_lt this (by decide)
/-- the leap, told once more in the law -/
theorem ag_comp {Γ : Gam} {here : List Nat} {l : Nat} (hl : here.length ≤ 1000) {a b c d e f g i k : Sl} (hk : k.free = true) :
    ev Γ (.comp (.v 10) (.nm 10) (.seq (.v 5)) (.cmp .notin (.v 10) (.tup [(.v 8), (.bin .add (.v 8) (.k (.int 1)))]))) [a, b, c, d, e, .va (cd here), f, g, .va (.int l), i, k] = some (.d (.list ((here.filter fun p => !(p == l || p == l + 1)).map cd)) true, [a, b, c, d, e, .va (cd here), f, g, .va (.int l), i, k]) := by
  have h1 := List.length_filter_le (fun p => !(p == l || p == l + 1)) here
  refine x_comp1 (l := here) (enc := cd) (fun p => !(p == l || p == l + 1)) cd (by simp_arith []) (by show (k.free && true) = true; rw [hk]; rfl) ?_ (by omega)
  intro p _
  simp_arith [ni_i2]
  congr 2
  rw [Bool.eq_iff_iff]; simp; omega
theorem ag_add {here : List Nat} {l : Nat} (hl : here.length ≤ 1000) : bin2 .add (.list ((here.filter fun p => !(p == l || p == l + 1)).map cd)) (.list [.int ((l : Int) + 2)]) = some (.list ((here.filter (fun p => !(p == l || p == l + 1)) ++ [l + 2]).map cd), true) :=
  add_lst _ [l + 2] (by have h1 := List.length_filter_le (fun p => !(p == l || p == l + 1)) here; show _ + 1 ≤ _; omega)
theorem ag_srt {here : List Nat} {l : Nat} (hl : here.length ≤ 1000) (hc : l + 2 ∉ here) (hp : here.Pairwise (· < ·)) : srtD ((here.filter (fun p => !(p == l || p == l + 1)) ++ [l + 2]).map cd) = some (.list ((aft here l).map cd)) := by
  have hs : srt (here.filter (fun p => !(p == l || p == l + 1)) ++ [l + 2]) = aft here l := by
    refine srt_up (aft_perm here l).symm ?_
    exact (aft_up hp hc).imp fun h => decide_eq_true h
  have h1 := List.length_filter_le (fun p => !(p == l || p == l + 1)) here
  rw [← hs]
  exact srtD_nat _ (by rw [List.length_append]; show _ + 1 ≤ _; omega)
theorem law90 {Γ : Gam} (hk : Stk Γ) (hpk : Spick Γ) (hle : Sleaps Γ) (haf : Safter Γ) (hva : Svalue Γ) (hse : Ssettled Γ) (hma : Smany Γ) (hme : Smeet Γ) (hst : Ssettling Γ) (ns : List Int) : runDf Γ f_law90 [.list (ns.map .int)] = some (.bool true, false, []) := by
  refine runDf_is (r := [.va (.list (ns.map .int))]) rfl ?_
  show Run Γ _ [.va (.list (ns.map .int)), .un, .un, .un, .un, .un, .un, .un, .un, .un, .un] _
  simp_arith [f_law90]
  refine Bd_for (l := List.range 5) (enc := cd) (ρ1 := [.va (.list (ns.map .int)), .ow (Rw.d ⟨ns, 0, 25290, 0⟩), .un, .un, .un, .un, .un, .un, .un, .un, .un]) (by simp_arith []; rfl) (fun i ρ => ∃ r t2 t3 t4 t5 t6 t7 t8 t9 t10, ρ = [.va (.list (ns.map .int)), .ow (Rw.d r), t2, t3, t4, t5, t6, t7, t8, t9, t10] ∧ r.ok ∧ t4.free = true ∧ t10.free = true) ⟨_, _, _, _, _, _, _, _, _, _, rfl, Rw.ok0 ns (by decide) (by decide), rfl, rfl⟩ ?_ ?_
  · rintro i hi ρ ⟨r, t2, t3, t4, t5, t6, t7, t8, t9, t10, rfl, hr, f4, f10⟩
    simp_arith []
    generalize (List.range 5)[i] = turn
    obtain ⟨xs, r', hr', hsel, e1⟩ := x_compS (Γ := Γ) (elt := .v 4) (i := 4) (it := .rng [.k (.int 16)]) (c := .cmp .gt (.call "_law_taken" [.io 1, .b (.k (.int 3))]) (.k (.int 0))) (l := List.range 16) (enc := cd) (fun a x => x = cd a) true (fun r : Rw => [.va (.list (ns.map .int)), .ow r.d, .va (.int turn), t3, t4, t5, t6, t7, t8, t9, t10]) Rw.ok r t4 (by simp_arith []; rfl) hr f4 (fun _ => rfl) (fun _ => by simp) (by
      intro a _ r hr
      have e := hk r 3 hr (by decide) (by decide)
      simp_arith [e]
      exact ⟨_, tk_ok 3 hr, rfl, fun _ => ⟨_, tk_ok 3 hr, rfl⟩⟩) (by simp)
    obtain ⟨m, hm, rfl⟩ := hsel.sub
    obtain ⟨hs0, hv⟩ := range_stp hm
    have hml : m.length ≤ 16 := by have := hm.length_le; simpa using this
    have hmok := hs0.ok hv
    simp_arith [e1]
    refine ⟨fun _ => ?_, by omega⟩
    refine Bd_for (l := List.range m.length) (enc := cd) (by simp_arith [rng1 (show m.length < 1152921504606846976 by omega)]; rfl) (fun i ρ => ∃ (r : Rw) (here : List Nat) (dn : Nat) (t4 t7 t8 t9 t10 : Sl), ρ = [.va (.list (ns.map .int)), .ow (Rw.d r), .va (.int turn), .va (cd m), t4, .va (cd here), .va (.int dn), t7, t8, t9, t10] ∧ r.ok ∧ t4.free = true ∧ t10.free = true ∧ Stp (val m) here ∧ here.length + dn = m.length ∧ (lps here = [] ∨ dn = i)) ⟨r', m, 0, t4, t7, t8, t9, t10, rfl, hr', f4, f10, hs0, by omega, .inr rfl⟩ ?_ ?_
    · rintro j hj ρ ⟨r, here, dn, t4, t7, t8, t9, t10, rfl, hr, f4, f10, h1, h2, h3⟩
      have ok := h1.ok hv
      have hl := ok.len
      simp_arith [hle here ok]

      refine ⟨fun hne => ?_, fun he => ?_⟩
      · have hpos : 0 < ((lps here).map (cd : Nat → D)).length := by
          rw [List.length_map]; exact List.length_pos_iff.2 hne
        have hll := lps_le here
        have e2 := hpk r ((lps here).map cd) hr hpos (by rw [List.length_map]; omega)
        rw [List.getElem_map] at e2
        have hmem := List.getElem_mem (l := lps here) (n := pk r ((lps here).map (cd : Nat → D)).length) (by have := pk_lt r hpos; simpa using this)
        revert e2 hmem
        generalize (lps here)[pk r ((lps here).map (cd : Nat → D)).length]'_ = l
        intro e2 hl2
        have hr2 := tk_ok ((lps here).map (cd : Nat → D)).length hr
        revert hr2 e2
        generalize (tk r ((lps here).map (cd : Nat → D)).length).2 = r2
        intro e2 hr2
        have e3 := haf here l ok (mem_lps.1 hl2).2.2
        have h4 := h1.aft hl2
        have e4 := fun a b c d e f g i => @ag_comp Γ here l (by omega) a b c d e f g i t10 f10
        have e5 := @ag_add here l (by omega)
        have e6 := @ag_srt here l (by omega) (mem_lps.1 hl2).2.2 h1.1
        have l1 : (aft here l).length ≤ 16777216 := by omega
        have l2 : (lps here).length ≤ 16777216 := by omega
        have v1 := hva here ok
        have v2 := hva _ (h4.1.ok hv)
        rw [h1.2] at v1
        rw [h4.1.2] at v2
        simp_arith [e2, e3, e4, e5, e6, l1, l2, v1, v2]
        refine ⟨r2, aft here l, dn + 1, _, _, _, _, _, rfl, hr2, rfl, f10, h4.1, by omega, .inr ?_⟩
        rcases h3 with h3 | h3
        · exact absurd h3 hne
        · omega
      · have he : lps here = [] := Classical.not_not.1 he
        exact ⟨r, here, dn, _, _, _, _, _, rfl, hr, rfl, f10, h1, h2, .inl he⟩
    · rintro ρ ⟨r, here, dn, t4, t7, t8, t9, t10, rfl, hr, f4, f10, h1, h2, h3⟩
      have hz : lps here = [] := by
        rcases h3 with h3 | h3
        · exact h3
        · rw [List.length_range] at h3
          have : here.length = 0 := by omega
          rw [List.length_eq_zero_iff.1 this]; rfl
      have hd := h1.done hv hz
      have ok := h1.ok hv
      have ese := hse m hmok
      rw [hd] at ese
      have ema := hma m hmok
      rw [hd, show ((m.length : Int) - (here.length : Int)) = (dn : Nat) by omega] at ema
      have eme := hme here m ok hmok
      rw [h1.2, decide_eq_true (rfl : val m = val m)] at eme
      have ele := hle here ok
      rw [hz] at ele
      have est := hst m (val m) dn hs0 hv (by rw [hd]; omega)
      simp_arith [ese, ema, eme, ele]
      refine Bd_for (l := stl dn m) (enc := cd) (by simp_arith [est]) (fun i ρ => ∃ (here2 : List Nat) (t8 : Sl), ρ = [.va (.list (ns.map .int)), .ow (Rw.d r), .va (.int turn), .va (cd m), t4, .va (cd here2), .va (.int dn), t7, t8, t9, t10] ∧ Stp (val m) here2 ∧ here2.length + i = m.length ∧ (stl dn m).drop i = stl (dn - i) here2 ∧ i ≤ dn) ⟨m, t8, rfl, hs0, rfl, by simp, by omega⟩ ?_ ?_
      · rintro k hk ρ ⟨here2, t8, rfl, h5, h6, h7, h8⟩
        have hne : dn - k ≠ 0 := by
          intro z
          rw [z] at h7
          have := congrArg List.length h7
          simp [stl] at this
          omega
        obtain ⟨l, e1, e2⟩ := stp_last h5 hv (by rw [hd]; omega)
        rw [show dn - k = (dn - (k + 1)) + 1 by omega, stl, e1, List.drop_eq_getElem_cons hk] at h7
        injection h7 with h7 h9
        have ok2 := h5.ok hv
        have e3 := hle here2 ok2
        have e4 := haf here2 l ok2 (mem_lps.1 e2).2.2
        rw [h7]
        simp_arith [e3, e4, ix_last, e1]
        exact ⟨aft here2 l, _, rfl, (h5.aft e2).1, by have := (h5.aft e2).2; omega, h9, by omega⟩
      · rintro ρ ⟨here2, t8, rfl, h5, h6, h7, h8⟩
        rw [List.drop_length] at h7
        have e0 : (stl dn m).length = dn := by
          by_cases z : dn - (stl dn m).length = 0
          · omega
          · obtain ⟨l, e1, e2⟩ := stp_last h5 hv (by rw [hd]; omega)
            rw [show dn - (stl dn m).length = (dn - ((stl dn m).length + 1)) + 1 by omega, stl, e1] at h7
            cases h7
        have e1 : here2 = here := by
          have hz2 : lps here2 = [] := by
            cases q : (lps here2) with
            | nil => rfl
            | cons l _ =>
              have hm2 : l ∈ lps here2 := by rw [q]; simp
              have h9 := h5.aft hm2
              have h10 : ∀ (n : Nat) (ps : List Nat), ps.length = n → Stp (val m) ps → here.length ≤ ps.length := by
                intro n
                induction n with
                | zero =>
                  intro ps e hs
                  have : lps ps = [] := by rw [List.length_eq_zero_iff.1 e]; rfl
                  have := hs.done hv this
                  rw [← hd, this]; exact Nat.le_refl _
                | succ n ih =>
                  intro ps e hs
                  cases q2 : lps ps with
                  | nil => have := hs.done hv q2; rw [← hd, this]; exact Nat.le_refl _
                  | cons p _ =>
                    have h11 := hs.aft (l := p) (by rw [q2]; simp)
                    have := ih (aft ps p) (by omega) h11.1
                    omega
              have := h10 _ _ rfl h9.1
              omega
          rw [← hd, h5.done hv hz2]
        subst e1
        simp_arith [ese]
        exact ⟨r, _, _, _, _, _, _, _, _, _, rfl, hr, f4, f10⟩
  · rintro ρ ⟨r, t2, t3, t4, t5, t6, t7, t8, t9, t10, rfl, hr, f4, f10⟩
    simp_arith []
end LT.Ln
end
section
set_option linter.all false
set_option maxRecDepth 100000
open PySem LT Cd
local macro_rules
  | `(tactic| simp_arith [$args,*]) => `(tactic| simp only [Run_Bd, Run_nil, Then_nx, Then_rt, Then_bk, Then_ct, Bd_sxs, Bd_some, Bd_bind, Bd_map, LT.Bd_ite, Bd_none, ite_and, ite_or, imp_f, decide_not, Bool.decide_eq_true, Ret_rt, Ret_nx, Is_eq, ios_nil, ios_a, ios_b, ios_io, ioD_io, LP_nx, LP_ct, LP_bk, LP_rt,
      s_asg, s_asgT, s_par, s_ifs, s_setI, s_setA, s_app, s_upd, s_ex, s_ret, s_ret0, s_brk, s_cnt, s_pas, rtO_d, rtO_s, rtS_ow, rtS_va, rtS_bo, evO_nil, evO_cons, setO_nil, setO_cons, setAll_nil, setAll_cons, bindT_nm, bindT_tp,
      x_v, x_k, x_bin, x_neg, x_cmp, x_chn, x_and, x_or, x_not, x_ite, x_tup, x_lst, x_dct0, x_dct1, x_ix, x_slc, x_rev, x_att, x_call, x_len, x_int, x_sum, x_any, x_all, x_min, x_max, x_min2, x_max2, x_abs, x_str, x_isi, x_idx, x_tupI, x_lstI, x_srt, x_srtS, x_srtK, x_lenS,
      evs_nil, evs_cons, evAs_nil, evAs_a, evAs_b, evAs_io, callG_ok, agv_nil, agv_co, arg1_a, arg1_b, arg1_io, ioS_nil, ioS_io, ioS_a, ioS_b, boS_nil, boS_io, boS_a, boS_bs, boS_bd, putIo_nil, putIo_cons,
      i_seq, i_sq, i_lst, i_rng, i_enum, i_zip, seq_t, seq_l, items_t, items_l, lst_l, ent_t, ent_l, isL_l,
      rd_va, rd_ow, rd_io, rd_bo, rd_su, at_ze, at_su, own_io, own_ow, own_su, ownS_t, ownS_f, esc_s, esc_d, escS_va, escS_ow, escS_bo, flat_int, flat_bool, flat_tuple, flat_none, flat_cd, flat_pr, flat_lp, wlk_s, wlk_d, wlkS_va, wlkS_ow, wlkS_bo, get_d, get_s,
      un1_e, bi1_e, sl1_e, okPart_i, okPart_n, isNoneK, val1_e, bool1_e, intD_int, negD_int, notD_bool, absD_int, asB_b, boolH_e, Option.bind_some, Option.map_some, Option.bind_none, Option.map_none, Option.isSome_some, Option.isSome_map,
      nodupN, disj, List.all_nil, List.all_cons, List.contains_nil, List.contains_cons, Bool.and_self, Bool.and_true, Bool.true_and, Bool.not_false, Bool.not_true, Bool.false_and, Bool.and_false,
      List.set_cons_zero, List.set_cons_succ, List.length_cons, List.length_nil, List.length_map, List.isEmpty_nil,
      if_true, if_false, eq_self, true_and, and_true, true_implies, false_implies, implies_true, not_true, not_false_eq_true, Bool.false_eq_true, Bool.true_eq_false, and_self, ne_eq, decide_true, decide_false, decide_eq_true_eq, Bool.not_eq_true', decide_eq_false_iff_not, reduceIte,
      cd_nat, cd_int, cd_bool, add_int, sub_int, mod_int, fdiv_int, mulR_int, mulL_int, lt_int, gt_int, le_in, ge_int, eqi_int, nei_int, len_cd, len_t, len_l, seq_cd, items_cd, ent_cd, tup_cd, isi_int_int, isi_int_bool, isi_tup, isi_cd, rev_lst, line_n, ix_nat, ix_natL, ixT0, ixT1, ixT2, ixL0, ixL1, ix_l0, ix_l1, ix_l2, ix_pp0, ix_pp1,
      dep_nat, dep_int, dep_bool, dep_lp, dep_list, dep_pair, Nat.zero_le, Nat.max_self, eq_cd, ne_cd, eq_nil, ne_nil, eq_lst, ne_lst, eq_nilL, ne_nilL, in_cd, ni_cd, in_lst, ni_lst, in_nat, ni_nat, in_natL, ni_natL, is_nn, isn_nn, is_bb, isn_bb, is_in, isn_in, is_tn, isn_tn, sum_nat, sum_int, any_lst, all_lst, Int.reduceLT, Int.reduceLE, Int.reduceNeg, Int.reduceAdd, Int.reduceSub, Int.reduceMul, Int.reduceToNat, Int.reduceEq, Int.reduceNe, Nat.reduceLeDiff, Nat.reduceLT, Nat.reduceAdd, Nat.reduceEqDiff, Nat.reduceBEq, Nat.reduceBNe, $args,*])
/-! specs and theorems in one form -/
namespace LT
abbrev Gf := List D → Option (D × Bool × List D)
def P_law_taken (g : Gf) : Prop := ∀ (r : Rw) (a : Int), r.ok → 0 < a → a < 18446744073709551616 → g [r.d, .int a] = some (.int (tk r a).1, false, [(tk r a).2.d])
theorem t_law_taken {Γ : Gam} : P_law_taken (runDf Γ f_law_taken) := fun r a h1 h2 h3 => law_taken Γ h1 h2 h3
def P_law_pick (g : Gf) : Prop := ∀ (r : Rw) (l : List D), r.ok → (h : 0 < l.length) → l.length ≤ 16777216 → g [r.d, .list l] = some (l[pk r l.length]'(pk_lt r h), false, [(tk r l.length).2.d])
theorem t_law_pick {Γ : Gam} (h1 : P_law_taken (Γ "_law_taken")) : P_law_pick (runDf Γ f_law_pick) := fun r l h2 h3 h4 => law_pick (ht := h1) h2 h3 h4
end LT
namespace LT.Ln
def P_is_number (g : Gf) : Prop := ∀ n : Int, g [.int n] = some (.bool true, false, [])
theorem t_is_number {Γ : Gam} : P_is_number (runDf Γ f_is_number) := fun n => is_number Γ n
def P_first_false (g : Gf) : Prop := ∀ n, g [.list (List.replicate n (.bool true))] = some (.none, false, [])
theorem t_first_false {Γ : Gam} : P_first_false (runDf Γ f_first_false) := fun n => first_false Γ n
def P_need_line (g : Gf) : Prop := ∀ ps, Okp ps → g [cd ps] = some (.none, false, [])
theorem t_need_line {Γ : Gam} (h1 : P_first_false (Γ "first_false")) (h2 : P_is_number (Γ "is_number")) : P_need_line (runDf Γ f_need_line) := fun ps hp => need_line Γ h2 h1 hp
def P_line_worth (g : Gf) : Prop := ∀ n : Nat, n < 2 ^ 60 → g [.int n] = some (.int (wv n), false, [])
theorem t_line_worth {Γ : Gam} : P_line_worth (runDf Γ f_line_worth) := fun n h => line_worth Γ n h
def P_line_value (g : Gf) : Prop := ∀ ps, Okp ps → g [cd ps] = some (.int (val ps), false, [])
theorem t_line_value {Γ : Gam} (h1 : P_line_worth (Γ "line_worth")) (h2 : P_need_line (Γ "need_line")) : P_line_value (runDf Γ f_line_value) := fun ps hp => line_value Γ h2 h1 hp
def P_least_line (g : Gf) : Prop := ∀ v : Nat, g [.int v] = some (cd (gr 42 v), false, [])
theorem t_least_line {Γ : Gam} (h1 : P_line_worth (Γ "line_worth")) : P_least_line (runDf Γ f_least_line) := fun v => least_line Γ h1 v
def P_settled (g : Gf) : Prop := ∀ ps, Okp ps → g [cd ps] = some (cd (gr 42 (val ps)), false, [])
theorem t_settled {Γ : Gam} (h1 : P_least_line (Γ "least_line")) (h2 : P_line_value (Γ "line_value")) : P_settled (runDf Γ f_settled) := fun ps hp => settled Γ h1 h2 hp
def P_many_leaps (g : Gf) : Prop := ∀ ps, Okp ps → g [cd ps] = some (.int ((ps.length : Int) - ((gr 42 (val ps)).length : Int)), false, [])
theorem t_many_leaps {Γ : Gam} (h1 : P_settled (Γ "settled")) : P_many_leaps (runDf Γ f_many_leaps) := fun ps hp => many_leaps Γ h1 hp
def P_do_meet (g : Gf) : Prop := ∀ ps qs, Okp ps → Okp qs → g [cd ps, cd qs] = some (.bool (decide (val ps = val qs)), false, [])
theorem t_do_meet {Γ : Gam} (h1 : P_line_value (Γ "line_value")) : P_do_meet (runDf Γ f_do_meet) := fun ps qs hp hq => do_meet Γ h1 hp hq
def P_line_leaps (g : Gf) : Prop := ∀ ps, Okp ps → g [cd ps] = some (cd (lps ps), false, [])
theorem t_line_leaps {Γ : Gam} (h1 : P_need_line (Γ "need_line")) : P_line_leaps (runDf Γ f_line_leaps) := fun ps hp => line_leaps Γ h1 hp
def P_line_after (g : Gf) : Prop := ∀ ps (l : Nat), Okp ps → l + 2 ∉ ps → g [cd ps, .int l] = some (cd (aft ps l), false, [])
theorem t_line_after {Γ : Gam} : P_line_after (runDf Γ f_line_after) := fun ps l hp hc => line_after Γ hp hc
def P_settling (g : Gf) : Prop := ∀ (ps : List Nat) (v n : Nat), Stp v ps → v < wv 41 → (gr 42 v).length + n = ps.length → g [cd ps] = some (cd (stl n ps), false, [])
theorem t_settling {Γ : Gam} (h1 : P_line_after (Γ "line_after")) (h2 : P_many_leaps (Γ "many_leaps")) (h3 : P_need_line (Γ "need_line")) : P_settling (runDf Γ f_settling) := fun ps v n hs hv e => settling h3 h2 h1 hs hv e
def P_law90 (g : Gf) : Prop := ∀ ns : List Int, g [.list (ns.map .int)] = some (.bool true, false, [])
theorem t_law90 {Γ : Gam} (h1 : P_law_pick (Γ "_law_pick")) (h2 : P_law_taken (Γ "_law_taken")) (h3 : P_do_meet (Γ "do_meet")) (h4 : P_line_after (Γ "line_after")) (h5 : P_line_leaps (Γ "line_leaps")) (h6 : P_line_value (Γ "line_value")) (h7 : P_many_leaps (Γ "many_leaps")) (h8 : P_settled (Γ "settled")) (h9 : P_settling (Γ "settling")) : P_law90 (runDf Γ f_law90) :=
  fun ns => law90 h2 h1 h5 h4 h6 h8 h7 h3 h9 ns
end LT.Ln
end
section
set_option linter.all false
set_option maxRecDepth 100000
open PySem LT Cd
local macro_rules
  | `(tactic| simp_arith [$args,*]) => `(tactic| simp only [Run_Bd, Run_nil, Then_nx, Then_rt, Then_bk, Then_ct, Bd_sxs, Bd_some, Bd_bind, Bd_map, LT.Bd_ite, Bd_none, ite_and, ite_or, imp_f, decide_not, Bool.decide_eq_true, Ret_rt, Ret_nx, Is_eq, ios_nil, ios_a, ios_b, ios_io, ioD_io, LP_nx, LP_ct, LP_bk, LP_rt,
      s_asg, s_asgT, s_par, s_ifs, s_setI, s_setA, s_app, s_upd, s_ex, s_ret, s_ret0, s_brk, s_cnt, s_pas, rtO_d, rtO_s, rtS_ow, rtS_va, rtS_bo, evO_nil, evO_cons, setO_nil, setO_cons, setAll_nil, setAll_cons, bindT_nm, bindT_tp,
      x_v, x_k, x_bin, x_neg, x_cmp, x_chn, x_and, x_or, x_not, x_ite, x_tup, x_lst, x_dct0, x_dct1, x_ix, x_slc, x_rev, x_att, x_call, x_len, x_int, x_sum, x_any, x_all, x_min, x_max, x_min2, x_max2, x_abs, x_str, x_isi, x_idx, x_tupI, x_lstI, x_srt, x_srtS, x_srtK, x_lenS,
      evs_nil, evs_cons, evAs_nil, evAs_a, evAs_b, evAs_io, callG_ok, agv_nil, agv_co, arg1_a, arg1_b, arg1_io, ioS_nil, ioS_io, ioS_a, ioS_b, boS_nil, boS_io, boS_a, boS_bs, boS_bd, putIo_nil, putIo_cons,
      i_seq, i_sq, i_lst, i_rng, i_enum, i_zip, seq_t, seq_l, items_t, items_l, lst_l, ent_t, ent_l, isL_l,
      rd_va, rd_ow, rd_io, rd_bo, rd_su, at_ze, at_su, own_io, own_ow, own_su, ownS_t, ownS_f, esc_s, esc_d, escS_va, escS_ow, escS_bo, flat_int, flat_bool, flat_tuple, flat_none, flat_cd, flat_pr, flat_lp, wlk_s, wlk_d, wlkS_va, wlkS_ow, wlkS_bo, get_d, get_s,
      un1_e, bi1_e, sl1_e, okPart_i, okPart_n, isNoneK, val1_e, bool1_e, intD_int, negD_int, notD_bool, absD_int, asB_b, boolH_e, Option.bind_some, Option.map_some, Option.bind_none, Option.map_none, Option.isSome_some, Option.isSome_map,
      nodupN, disj, List.all_nil, List.all_cons, List.contains_nil, List.contains_cons, Bool.and_self, Bool.and_true, Bool.true_and, Bool.not_false, Bool.not_true, Bool.false_and, Bool.and_false,
      List.set_cons_zero, List.set_cons_succ, List.length_cons, List.length_nil, List.length_map, List.isEmpty_nil,
      if_true, if_false, eq_self, true_and, and_true, true_implies, false_implies, implies_true, not_true, not_false_eq_true, Bool.false_eq_true, Bool.true_eq_false, and_self, ne_eq, decide_true, decide_false, decide_eq_true_eq, Bool.not_eq_true', decide_eq_false_iff_not, reduceIte,
      cd_nat, cd_int, cd_bool, add_int, sub_int, mod_int, fdiv_int, mulR_int, mulL_int, lt_int, gt_int, le_in, ge_int, eqi_int, nei_int, len_cd, len_t, len_l, seq_cd, items_cd, ent_cd, tup_cd, isi_int_int, isi_int_bool, isi_tup, isi_cd, rev_lst, line_n, ix_nat, ix_natL, ixT0, ixT1, ixT2, ixL0, ixL1, ix_l0, ix_l1, ix_l2, ix_pp0, ix_pp1,
      dep_nat, dep_int, dep_bool, dep_lp, dep_list, dep_pair, Nat.zero_le, Nat.max_self, eq_cd, ne_cd, eq_nil, ne_nil, eq_lst, ne_lst, eq_nilL, ne_nilL, in_cd, ni_cd, in_lst, ni_lst, in_nat, ni_nat, in_natL, ni_natL, is_nn, isn_nn, is_bb, isn_bb, is_in, isn_in, is_tn, isn_tn, sum_nat, sum_int, any_lst, all_lst, Int.reduceLT, Int.reduceLE, Int.reduceNeg, Int.reduceAdd, Int.reduceSub, Int.reduceMul, Int.reduceToNat, Int.reduceEq, Int.reduceNe, Nat.reduceLeDiff, Nat.reduceLT, Nat.reduceAdd, Nat.reduceEqDiff, Nat.reduceBEq, Nat.reduceBNe, $args,*])
/-! k89: the law -/
namespace LT.Ln
open LT
def es : Nat → List Nat
  | 0 => []
  | 1 => [0]
  | n + 2 => es n ++ [n + 1]
def odd (n k : Nat) : Bool := decide (((n : Int) - 1 - (k : Int)) % 2 = 0)
theorem es_eq : ∀ n, (List.range n).filter (odd n) = es n
  | 0 => rfl
  | 1 => rfl
  | n + 2 => by
    rw [List.range_succ, List.range_succ, List.filter_append, List.filter_append, es, ← es_eq n]
    have h1 : (List.range n).filter (odd (n + 2)) = (List.range n).filter (odd n) := List.filter_congr fun k _ => by
      unfold odd
      exact decide_eq_decide.2 (by omega)
    have h2 : odd (n + 2) n = false := decide_eq_false (by omega)
    have h3 : odd (n + 2) (n + 1) = true := decide_eq_true (by omega)
    rw [h1, List.filter_cons, h2, List.filter_cons, h3]
    simp
theorem es_Z : ∀ n, Zk n (es n) ∧ val (es n) + 1 = wv n
  | 0 => ⟨⟨List.Pairwise.nil, fun _ h => by cases h⟩, rfl⟩
  | 1 => ⟨⟨by simp [es], by simp [es]⟩, rfl⟩
  | n + 2 => by
    obtain ⟨⟨h1, h2⟩, h3⟩ := es_Z n
    refine ⟨⟨?_, ?_⟩, ?_⟩
    · rw [es, List.pairwise_append]
      refine ⟨h1, by simp, fun a ha b hb => ?_⟩
      have := h2 a ha
      simp at hb
      omega
    · intro p hp
      rw [es] at hp
      rcases List.mem_append.1 hp with hp | hp
      · have := h2 p hp; omega
      · simp at hp; omega
    · rw [es, val_app, val_one]
      have : wv (n + 2) = wv n + wv (n + 1) := rfl
      omega
theorem one_Z (n : Nat) : Zk (n + 1) [n] := ⟨by simp, by simp⟩
def f_law89 : Df := { md := [.a], n := 9, body := [.asg 1 (.lst [(.v 0), (.k (.int 0)), (.k (.int 25289)), (.k (.int 0))]), .for_ (.nm 2) (.rng [(.k (.int 2)), (.k (.int 28))]) [.ifs (.cmp .ne (.call "line_worth" [.b (.v 2)]) (.bin .add (.call "line_worth" [.b (.bin .sub (.v 2) (.k (.int 1)))]) (.call "line_worth" [.b (.bin .sub (.v 2) (.k (.int 2)))]))) [.ret (.k (.bool false))] [], .asg 3 (.tupI (.sq (.comp (.v 4) (.nm 4) (.rng [(.v 2)]) (.cmp .eq (.bin .mod (.bin .sub (.bin .sub (.v 2) (.k (.int 1))) (.v 4)) (.k (.int 2))) (.k (.int 0)))))), .ifs (.or_ (.cmp .ne (.call "line_value" [.b (.v 3)]) (.bin .sub (.call "line_worth" [.b (.v 2)]) (.k (.int 1)))) (.or_ (.cmp .ne (.call "least_line" [.a (.bin .sub (.call "line_worth" [.b (.v 2)]) (.k (.int 1)))]) (.v 3)) (.cmp .ne (.call "least_line" [.a (.call "line_worth" [.b (.v 2)])]) (.tup [(.v 2)])))) [.ret (.k (.bool false))] []], .ifs (.cmp .ne (.tup [(.call "line_worth" [.b (.k (.int 0))]), (.call "line_worth" [.b (.k (.int 1))]), (.call "least_line" [.a (.k (.int 0))]), (.call "least_line" [.a (.k (.int 1))]), (.call "least_line" [.a (.k (.int 2))])]) (.tup [(.k (.int 1)), (.k (.int 2)), (.tup []), (.tup [(.k (.int 0))]), (.tup [(.k (.int 1))])])) [.ret (.k (.bool false))] [], .for_ (.nm 5) (.rng [(.k (.int 8))]) [.asg 6 (.call "_law_taken" [.io 1, .b (.k (.int 100000))]), .asg 7 (.call "least_line" [.a (.v 6)]), .ifs (.or_ (.cmp .ne (.call "line_value" [.b (.v 7)]) (.v 6)) (.or_ (.cmp .ne (.call "settled" [.b (.v 7)]) (.v 7)) (.or_ (.cmp .ne (.call "line_leaps" [.b (.v 7)]) (.tup [])) (.cmp .ne (.call "many_leaps" [.b (.v 7)]) (.k (.int 0)))))) [.ret (.k (.bool false))] [], .ifs (.cmp .ne (.comp (.v 4) (.nm 4) (.rng [(.bin .sub (.len (.v 7)) (.k (.int 1)))]) (.cmp .lt (.bin .sub (.ix (.v 7) (.bin .add (.v 4) (.k (.int 1)))) (.ix (.v 7) (.v 4))) (.k (.int 2)))) (.lst [])) [.ret (.k (.bool false))] [], .asg 8 (.call "least_line" [.a (.bin .add (.v 6) (.k (.int 1)))]), .ifs (.or_ (.call "do_meet" [.b (.v 7), .b (.v 8)]) (.cmp .ne (.call "line_value" [.b (.v 8)]) (.bin .add (.v 6) (.k (.int 1))))) [.ret (.k (.bool false))] [], .ifs (.and_ (.cmp .notin (.k (.int 0)) (.v 7)) (.and_ (.cmp .notin (.k (.int 1)) (.v 7)) (.cmp .ne (.v 8) (.bin .add (.tup [(.k (.int 0))]) (.v 7))))) [.ret (.k (.bool false))] []], .ret (.k (.bool true))] }
def P_law89 (g : Gf) : Prop := ∀ ns : List Int, g [.list (ns.map .int)] = some (.bool true, false, [])
theorem wv_le41 {n : Nat} (h : n < 28) : wv n ≤ wv 30 := wv_mono (by omega)
theorem wv30 : wv 30 < wv 41 := Nat.lt_of_lt_of_le (wv_step 30) (wv_mono (by omega))
theorem wvM : 100001 < wv 41 := by
  have : wv 24 = 121393 := by decide +kernel
  have := wv_mono (show 24 ≤ 41 by omega)
  omega
theorem rng26 : rngD [.int 2, .int 28] = some ((List.range 26).map fun k : Nat => PyData.int ((k + 2 : Nat) : Int)) := by
  show rngL 2 28 1 = _
  rw [rng_up (by decide) (by decide)]
  show some ((List.range 26).map _) = _
  refine congrArg some (List.map_congr_left fun a _ => ?_)
  show PyData.int _ = PyData.int _
  congr 1
  show (2 : Int) + a = ((a + 2 : Nat) : Int)
  omega
theorem rngI {i : Int} (h : i.natAbs < 2 ^ 60) : rngD [.int i] = some ((List.range i.toNat).map cd) := by
  show rngL 0 i 1 = _
  rw [rng_up (by decide) h, Int.sub_zero]
  congr 1
  exact List.map_congr_left fun a _ => by simp [cd_nat]
theorem t_law89 {Γ : Gam} (hk : P_law_taken (Γ "_law_taken")) (hme : P_do_meet (Γ "do_meet")) (hl : P_least_line (Γ "least_line")) (hle : P_line_leaps (Γ "line_leaps")) (hva : P_line_value (Γ "line_value")) (hw : P_line_worth (Γ "line_worth")) (hma : P_many_leaps (Γ "many_leaps")) (hse : P_settled (Γ "settled")) : P_law89 (runDf Γ f_law89) := by
  intro ns
  refine runDf_is (r := [.va (.list (ns.map .int))]) rfl ?_
  show Run Γ _ [.va (.list (ns.map .int)), .un, .un, .un, .un, .un, .un, .un, .un] _
  simp_arith [f_law89]
  refine Bd_for (l := List.range 26) (enc := fun k : Nat => PyData.int ((k + 2 : Nat) : Int)) (ρ1 := [.va (.list (ns.map .int)), .ow (Rw.d ⟨ns, 0, 25289, 0⟩), .un, .un, .un, .un, .un, .un, .un]) (by simp_arith [rng26]; rfl) (fun i ρ => ∃ t2 t3 t4, ρ = [.va (.list (ns.map .int)), .ow (Rw.d ⟨ns, 0, 25289, 0⟩), t2, t3, t4, .un, .un, .un, .un] ∧ t4.free = true) ⟨_, _, _, rfl, rfl⟩ ?_ ?_
  · rintro i hi ρ ⟨t2, t3, t4, rfl, f4⟩
    have hi' : i < 26 := by simpa using hi
    rw [List.getElem_range]
    have w0 := hw (i + 2) (by omega)
    have w1 : Γ "line_worth" [.int (((i + 2 : Nat) : Int) - 1)] = some (.int (wv (i + 1)), false, []) := by
      rw [show (((i + 2 : Nat) : Int) - 1) = ((i + 1 : Nat) : Int) by omega]; exact hw (i + 1) (by omega)
    have w2 : Γ "line_worth" [.int (((i + 2 : Nat) : Int) - 2)] = some (.int (wv i), false, []) := by
      rw [show (((i + 2 : Nat) : Int) - 2) = ((i : Nat) : Int) by omega]; exact hw i (by omega)
    have hr : wv (i + 2) = wv i + wv (i + 1) := rfl
    obtain ⟨z1, z2⟩ := es_Z (i + 2)
    have zl : (es (i + 2)).length ≤ 100 := by
      rw [← es_eq]
      have := List.length_filter_le (odd (i + 2)) (List.range (i + 2))
      simp at this
      omega
    have ok : Okp (es (i + 2)) := ⟨z1.1.imp (by intro a b h; omega), fun p hp => by have := z1.2 p hp; omega⟩
    have v1 := hva _ ok
    have l1 : Γ "least_line" [.int ((wv (i + 2) : Int) - 1)] = some (cd (es (i + 2)), false, []) := by
      rw [show ((wv (i + 2) : Int) - 1) = ((val (es (i + 2)) : Nat) : Int) by omega, hl, Z_gr 42 _ (z1.mono (by omega))]
    have l2 : Γ "least_line" [.int (wv (i + 2))] = some (cd [i + 2], false, []) := by
      rw [hl, ← val_one, Z_gr 42 _ ((one_Z (i + 2)).mono (by omega))]
    have c1 : ev Γ (.comp (.v 4) (.nm 4) (.rng [(.v 2)]) (.cmp .eq (.bin .mod (.bin .sub (.bin .sub (.v 2) (.k (.int 1))) (.v 4)) (.k (.int 2))) (.k (.int 0)))) [.va (.list (ns.map .int)), .ow (Rw.d ⟨ns, 0, 25289, 0⟩), .va (.int ((i + 2 : Nat) : Int)), t3, t4, .un, .un, .un, .un] = some (.d (.list ((es (i + 2)).map cd)) true, [.va (.list (ns.map .int)), .ow (Rw.d ⟨ns, 0, 25289, 0⟩), .va (.int ((i + 2 : Nat) : Int)), t3, t4, .un, .un, .un, .un]) := by
      rw [← es_eq]
      refine x_comp1 (l := List.range (i + 2)) (enc := cd) (odd (i + 2)) cd (by simp_arith [rng1 (show i + 2 < 1152921504606846976 by omega)]) (by show (t4.free && true) = true; rw [f4]; rfl) ?_ (by rw [es_eq]; omega)
      intro a _
      simp_arith [odd]
    have c2 : cmpD .ne (cd [i + 2]) (.tuple [.int ((i + 2 : Nat) : Int)]) = some false := by
      rw [show PyData.tuple [.int ((i + 2 : Nat) : Int)] = cd [i + 2] from rfl, ne_cd _ _ (by decide)]; simp
    have x1 : ((wv (i + 2) : Nat) : Int) = (wv (i + 1) : Nat) + (wv i : Nat) := by omega
    have x2 : ((val (es (i + 2)) : Nat) : Int) = ((wv (i + 2) : Nat) : Int) - 1 := by omega
    simp_arith [w0, w1, w2, c1, v1, l1, l2, c2, ← x1, x2, show (es (i + 2)).length ≤ 16777216 by omega]
    exact ⟨_, _, _, rfl, f4⟩
  · rintro ρ ⟨t2, t3, t4, rfl, f4⟩
    have g0 : gr 42 0 = [] := Z_gr 42 [] ⟨List.Pairwise.nil, fun _ h => by cases h⟩
    have g1 : gr 42 1 = [0] := Z_gr 42 [0] ((one_Z 0).mono (by omega))
    have g2 : gr 42 2 = [1] := Z_gr 42 [1] ((one_Z 1).mono (by omega))
    have w0 : Γ "line_worth" [.int 0] = some (.int 1, false, []) := hw 0 (by omega)
    have w1 : Γ "line_worth" [.int 1] = some (.int 2, false, []) := hw 1 (by omega)
    have l0 : Γ "least_line" [.int 0] = some (cd ([] : List Nat), false, []) := by have := hl 0; rw [g0] at this; exact this
    have l1 : Γ "least_line" [.int 1] = some (cd [0], false, []) := by have := hl 1; rw [g1] at this; exact this
    have l2 : Γ "least_line" [.int 2] = some (cd [1], false, []) := by have := hl 2; rw [g2] at this; exact this
    have c : cmpD .ne (.tuple [.int 1, .int 2, cd ([] : List Nat), cd [0], cd [1]]) (.tuple [.int 1, .int 2, .tuple [], .tuple [.int 0], .tuple [.int 1]]) = some false := by rfl
    simp_arith [w0, w1, l0, l1, l2, c]
    refine Bd_for (l := List.range 8) (enc := cd) (by simp_arith [rng1 (n := 8) (by decide)]; rfl) (fun i ρ => ∃ (r : Rw) (t2 t3 t4 t5 t6 t7 t8 : Sl), ρ = [.va (.list (ns.map .int)), .ow (Rw.d r), t2, t3, t4, t5, t6, t7, t8] ∧ t4.free = true ∧ r.ok) ⟨⟨ns, 0, 25289, 0⟩, _, _, _, _, _, _, _, rfl, f4, Rw.ok0 ns (by decide) (by decide)⟩ ?_ ?_
    · rintro i hi ρ ⟨r, t2, t3, t4, t5, t6, t7, t8, rfl, f4, hr⟩
      have et := hk r 100000 hr (by decide) (by decide)
      have hr2 := tk_ok 100000 hr
      have h1 := tk_ge r (a := 100000) (by decide)
      have h2 := tk_lt r (a := 100000) (by decide)
      revert et hr2 h1 h2
      generalize (tk r 100000).2 = r2
      generalize (tk r 100000).1 = v
      intro et hr2 h1 h2
      obtain ⟨v, rfl⟩ : ∃ k : Nat, v = k := ⟨v.toNat, by omega⟩
      have wm := wvM
      have e1 := hl v
      have e2 : Γ "least_line" [.int ((v : Int) + 1)] = some (cd (gr 42 (v + 1)), false, []) := hl (v + 1)
      obtain ⟨s1, s2⟩ := Stp.gr (v := v) (by omega)
      obtain ⟨s3, s4⟩ := Stp.gr (v := v + 1) (by omega)
      have zz := (gr_Z 42 41 v (by omega) (by omega)).2
      have ok1 := s1.ok (by omega)
      have ok2 := s3.ok (by omega)
      have v1 := hva _ ok1
      have v2 := hva _ ok2
      have st := hse _ ok1
      have ml := hma _ ok1
      have lp := hle _ ok1
      have me := hme _ _ ok1 ok2
      rw [s1.2] at v1 st ml me
      rw [s3.2] at v2 me
      rw [s2] at lp
      rw [Int.sub_self] at ml
      rw [decide_eq_false (by omega)] at me
      have len := ok1.len
      have ad : bin2 .add (.tuple [.int 0]) (cd (gr 42 v)) = some (cd (0 :: gr 42 v), false) := add_cd [0] (gr 42 v) (by simp; omega)
      have n0 : cmpD .notin (.int 0) (cd (gr 42 v)) = some (decide (0 ∉ gr 42 v)) := ni_nat 0 _
      have n1 : cmpD .notin (.int 1) (cd (gr 42 v)) = some (decide (1 ∉ gr 42 v)) := ni_nat 1 _
      have fin : 0 ∉ gr 42 v → 1 ∉ gr 42 v → gr 42 (v + 1) = 0 :: gr 42 v := fun h0 h1 => by
        have z : Zk 41 (0 :: gr 42 v) := by
          refine ⟨List.pairwise_cons.2 ⟨fun a ha => ?_, zz.1⟩, ?_⟩
          · by_cases q0 : a = 0
            · subst q0; exact absurd ha h0
            · by_cases q1 : a = 1
              · subst q1; exact absurd ha h1
              · omega
          · intro p hp
            rcases List.mem_cons.1 hp with rfl | hp
            · omega
            · exact zz.2 p hp
        have := Z_gr 42 _ (z.mono (by omega))
        rw [val_cons, s1.2, show wv 0 = 1 from rfl, Nat.add_comm] at this
        exact this
      revert zz e1 e2 v1 v2 st ml lp me len ad n0 n1 fin
      generalize gr 42 v = a
      generalize gr 42 (v + 1) = b
      intro e1 e2 zz v1 v2 st ml lp me len ad n0 n1 fin
      have cc : ev Γ (.comp (.v 4) (.nm 4) (.rng [(.bin .sub (.len (.v 7)) (.k (.int 1)))]) (.cmp .lt (.bin .sub (.ix (.v 7) (.bin .add (.v 4) (.k (.int 1)))) (.ix (.v 7) (.v 4))) (.k (.int 2)))) [.va (.list (ns.map .int)), .ow (Rw.d r2), t2, t3, t4, .va (.int ((List.range 8)[i] : Nat)), .va (.int v), .va (cd a), t8] = some (.d (.list []) true, [.va (.list (ns.map .int)), .ow (Rw.d r2), t2, t3, t4, .va (.int ((List.range 8)[i] : Nat)), .va (.int v), .va (cd a), t8]) := by
        have q := x_comp1 (Γ := Γ) (elt := .v 4) (c := .cmp .lt (.bin .sub (.ix (.v 7) (.bin .add (.v 4) (.k (.int 1)))) (.ix (.v 7) (.v 4))) (.k (.int 2))) (i := 4) (it := .rng [(.bin .sub (.len (.v 7)) (.k (.int 1)))]) (ρ := [.va (.list (ns.map .int)), .ow (Rw.d r2), t2, t3, t4, .va (.int ((List.range 8)[i] : Nat)), .va (.int v), .va (cd a), t8]) (ρ1 := [.va (.list (ns.map .int)), .ow (Rw.d r2), t2, t3, t4, .va (.int ((List.range 8)[i] : Nat)), .va (.int v), .va (cd a), t8]) (l := List.range ((a.length : Int) - 1).toNat) (enc := cd) (fun _ => false) cd (by simp_arith [rngI (i := (a.length : Int) - 1) (by omega)]) (by show (t4.free && true) = true; rw [f4]; rfl) (fun k hk => by
          have hk : k < a.length - 1 := by have := List.mem_range.1 hk; omega
          have x1 : ixD (cd a) (.int ((k : Int) + 1)) = some (.int (a[k + 1]'(by omega) : Nat)) := by
            have := ix_nat a (k + 1)
            rw [List.getElem?_eq_getElem (by omega)] at this
            exact this
          have x2 : ixD (cd a) (.int (k : Int)) = some (.int (a[k]'(by omega) : Nat)) := by
            have := ix_nat a k
            rw [List.getElem?_eq_getElem (by omega)] at this
            exact this
          have lt := List.pairwise_iff_getElem.1 zz.1 k (k + 1) (by omega) (by omega) (by omega)
          simp_arith [x1, x2]
          congr 2
          exact decide_eq_false (by omega)) (by rw [List.filter_eq_nil_iff.2 (by simp)]; simp)
        rw [q, List.filter_eq_nil_iff.2 (by simp)]; rfl
      simp_arith [et, e1, e2, v1, v2, st, ml, lp, me, ad, n0, n1, cc, show cmpD .ne (.list []) (.list []) = some false from rfl, show cmpD .ne (cd ([] : List Nat)) (.tuple []) = some false from rfl, Int.natCast_add, Int.natCast_one]
      refine ⟨fun h => ?_, fun _ => ⟨r2, _, _, _, _, _, _, _, rfl, f4, hr2⟩⟩
      simp at h
      exact absurd (fin h.1 h.2.1) h.2.2
    · rintro ρ ⟨r, t2, t3, t4, t5, t6, t7, t8, rfl, f4, hr⟩
      simp_arith []
end LT.Ln
end
section
set_option linter.all false
set_option maxRecDepth 100000
namespace LT.K89
open PySem LT LT.Ln
abbrev G (k : Nat) : Gam := gam (progOf tab (order.drop k))
theorem a_is_number {Γ : Gam} (e : Γ "is_number" = runDf (G 11) f_is_number) : P_is_number (Γ "is_number") := e ▸ (t_is_number (Γ := G 11)  : P_is_number (runDf (G 11) f_is_number))
theorem a_first_false {Γ : Gam} (e : Γ "first_false" = runDf (G 10) f_first_false) : P_first_false (Γ "first_false") := e ▸ (t_first_false (Γ := G 10)  : P_first_false (runDf (G 10) f_first_false))
theorem a_need_line {Γ : Gam} (e : Γ "need_line" = runDf (G 9) f_need_line) : P_need_line (Γ "need_line") := e ▸ (t_need_line (Γ := G 9) (a_first_false (by kernel_rfl)) (a_is_number (by kernel_rfl)) : P_need_line (runDf (G 9) f_need_line))
theorem a_line_worth {Γ : Gam} (e : Γ "line_worth" = runDf (G 8) f_line_worth) : P_line_worth (Γ "line_worth") := e ▸ (t_line_worth (Γ := G 8)  : P_line_worth (runDf (G 8) f_line_worth))
theorem a_line_value {Γ : Gam} (e : Γ "line_value" = runDf (G 7) f_line_value) : P_line_value (Γ "line_value") := e ▸ (t_line_value (Γ := G 7) (a_line_worth (by kernel_rfl)) (a_need_line (by kernel_rfl)) : P_line_value (runDf (G 7) f_line_value))
theorem a_least_line {Γ : Gam} (e : Γ "least_line" = runDf (G 6) f_least_line) : P_least_line (Γ "least_line") := e ▸ (t_least_line (Γ := G 6) (a_line_worth (by kernel_rfl)) : P_least_line (runDf (G 6) f_least_line))
theorem a_settled {Γ : Gam} (e : Γ "settled" = runDf (G 5) f_settled) : P_settled (Γ "settled") := e ▸ (t_settled (Γ := G 5) (a_least_line (by kernel_rfl)) (a_line_value (by kernel_rfl)) : P_settled (runDf (G 5) f_settled))
theorem a_line_leaps {Γ : Gam} (e : Γ "line_leaps" = runDf (G 4) f_line_leaps) : P_line_leaps (Γ "line_leaps") := e ▸ (t_line_leaps (Γ := G 4) (a_need_line (by kernel_rfl)) : P_line_leaps (runDf (G 4) f_line_leaps))
theorem a_many_leaps {Γ : Gam} (e : Γ "many_leaps" = runDf (G 3) f_many_leaps) : P_many_leaps (Γ "many_leaps") := e ▸ (t_many_leaps (Γ := G 3) (a_settled (by kernel_rfl)) : P_many_leaps (runDf (G 3) f_many_leaps))
theorem a_do_meet {Γ : Gam} (e : Γ "do_meet" = runDf (G 2) f_do_meet) : P_do_meet (Γ "do_meet") := e ▸ (t_do_meet (Γ := G 2) (a_line_value (by kernel_rfl)) : P_do_meet (runDf (G 2) f_do_meet))
theorem a_law_taken {Γ : Gam} (e : Γ "_law_taken" = runDf (G 1) f_law_taken) : P_law_taken (Γ "_law_taken") := e ▸ (t_law_taken (Γ := G 1)  : P_law_taken (runDf (G 1) f_law_taken))
theorem pure_law : P_law89 (runDf (G 0) f_law) := t_law89 (Γ := G 0) (a_law_taken (by kernel_rfl)) (a_do_meet (by kernel_rfl)) (a_least_line (by kernel_rfl)) (a_line_leaps (by kernel_rfl)) (a_line_value (by kernel_rfl)) (a_line_worth (by kernel_rfl)) (a_many_leaps (by kernel_rfl)) (a_settled (by kernel_rfl))
end LT.K89
theorem PySem.Challenge.cw_leaptover_k89_least_lines_count_up_holds : PySem.Challenge.rw_leaptover_k89_least_lines_count_up.Holds := by
  exact LT.K89.holds fun ns hl => ⟨false, LT.K89.pure_law ns⟩
end
