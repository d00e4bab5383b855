import PyProof.Rows.All
import Wide.All
import OpenK.AllK
import Wide.FinOn
import HandS.ForMost
import HandS.Walk
import KE.DataCmp
import HandS.IsInst
import HandS.TupAny
import HandS.TupMul
import HandS.Wide
import HandS.Style
import HandS.Conv
import HandS.RaiseMore
import PyProof.ReprRoads
import PyProof.P3In
import KE.GoesZip
import KE.GoesMore
import KE.SortData
import HandS.Ends
import PyProof.ReprBulk
import PyProof.FitsInt
import PySem.Challenge.RW_lotfamilies_k91_whole_sums_and_back
set_option Elab.async false
set_option linter.all false
set_option maxRecDepth 100000
/-! the small language: expressions, statements, their meaning over plain data -/
namespace Z
open PySem L2
abbrev D := PyData
abbrev Pot := Option (Int × Int)
/-- kinds of data that are ordered -/
inductive Ty where
  | int | str
  | seq (t : Ty)
  | pair (a b : Ty)
  | rows (t : Ty)
def isT : Ty → D → Bool
  | .int, .int _ => true
  | .str, .str _ => true
  | .seq t, .tuple xs => xs.all (isT t)
  | .pair a b, .tuple [x, y] => isT a x && isT b y
  | .rows t, .list xs => xs.all (isT t)
  | _, _ => false
/-- the order of alike data -/
abbrev ltD : D → D → Bool := PySem.W.dataLt
/-- stable insertion -/
def insD {α : Type} (lt : α → α → Bool) (x : α) : List α → List α
  | [] => [x]
  | y :: ys => if lt y x then y :: insD lt x ys else x :: y :: ys
def sortD {α : Type} (lt : α → α → Bool) : List α → List α
  | [] => []
  | x :: xs => insD lt x (sortD lt xs)
/-- the first of the least -/
def minD {α : Type} (lt : α → α → Bool) : α → List α → α
  | m, [] => m
  | m, x :: xs => minD lt (if lt x m then x else m) xs
def maxD {α : Type} (lt : α → α → Bool) : α → List α → α
  | m, [] => m
  | m, x :: xs => maxD lt (if lt m x then x else m) xs
/-- no list within -/
def flatD : D → Bool
  | .none | .bool _ | .int _ | .str _ => true
  | .tuple xs => flatAll xs
  | .list _ | .dict _ => false
where flatAll : List D → Bool
  | [] => true
  | x :: xs => flatD x && flatAll xs
inductive Op where
  | eq | ne | lt | le | gt | ge | isIn | notIn | is_ | isnot
  deriving DecidableEq
inductive Kd where
  | int | bool | str | tuple | list | seq
  deriving DecidableEq
mutual
inductive E where
  | var (i : Nat)
  | non | bl (b : Bool) | int (i : Int) | str (x : Str)
  | glob (x : Str)
  | tup (es : Es) | lst (es : Es) | dnil
  | add (a b : E) | sub (a b : E) | mul (a b : E) | fdiv (a b : E) | mod (a b : E) | pow (a b : Nat) | neg (a : E)
  | cmp (o : Op) (a b : E)
  | cmp2 (o p : Op) (a b c : E)
  | all_ (es : Es) | any_ (es : Es) | not (a : E)
  | ite (c a b : E)
  | ix (a i : E)
  | sl (a : E) (lo hi : Oe)
  | rev (a : E)
  | len (a : E) | sum (a : E) | all (a : E) | any (a : E) | sorted (t : Ty) (a : E) | sset (t : Ty) (a : E) | lset (a : E)
  | list (a : E) | tuple (a : E) | rngL (a : E) | rngT (a : E) | toInt (a : E) | abs (a : E) | repr (a : E)
  | min2 (a b : E) | max2 (a b : E) | minL (t : Ty) (a : E) | maxL (a : E)
  | isi (k : Kd) (a : E)
  | count (a b : E) | index (a b : E)
  | call (f : Str) (es : Es)
  | callk (f : Str) (ks : List Str) (perm : List Nat) (ps es : Es)
  | callp (f : Str) (p : Nat) (es : Es)
  | pot0 (p : Nat) | pot1 (p : Nat)
  | slen (p : Nat) | six (p : Nat) (e : E) | calls (f : Str) (p : Nat) (e : E)
  | calln (f g : Str) (p : Nat) (e : E) (es : Es)
  | comp (elt : E) (pt : Pt) (it : It) (own : List (Str × Nat)) (cond : Oe)
inductive Es where
  | nil
  | cons (e : E) (es : Es)
inductive Oe where
  | no
  | yes (e : E)
inductive It where
  | seq (a : E) | rng (a : E) | rng2 (a b : E) | zip (a b : E) | enum (a : E)
inductive Pt where
  | v (i : Nat)
  | t (ps : Pts)
inductive Pts where
  | nil
  | cons (p : Pt) (ps : Pts)
end
/-- what a slot holds -/
inductive Sl where
  | no
  | val (d : D)
  | own (d : D)
  | pot
  | scr (ns : List Int)
abbrev Dl := List Sl
/-- the defs that may be called -/
structure Tab where
  fn : Str → Option (List D → Option D)
  pf : Str → Option (List D → Int × Int → Option (D × (Int × Int)))
  sf : Str → Option (List Int → Int → Option (Int × Int))
  fresh : Str → Bool
  glb : Str → Option D
  kw : Str → List Str → List Nat → Bool
def asInt : D → Option Int
  | .int i => some i
  | _ => none
def asBool : D → Option Bool
  | .bool b => some b
  | _ => none
def allInt : List D → Option (List Int)
  | [] => some []
  | x :: xs => do let i ← asInt x; let r ← allInt xs; pure (i :: r)
def allBool : List D → Option (List Bool)
  | [] => some []
  | x :: xs => do let i ← asBool x; let r ← allBool xs; pure (i :: r)
/-- the items of a list or a tuple -/
def items : D → Option (List D)
  | .list xs => some xs
  | .tuple xs => some xs
  | _ => none
def lstOf : D → Option (List D)
  | .list xs => some xs
  | _ => none
def maxSize : Nat := 1000000
def sized (xs : List D) : Option (List D) := if xs.length ≤ maxSize then some xs else none
def addD : D → D → Option D
  | .int i, .int j => some (.int (i + j))
  | .list xs, .list ys => do let zs ← sized (xs ++ ys); pure (.list zs)
  | .tuple xs, .tuple ys => do let zs ← sized (xs ++ ys); pure (.tuple zs)
  | _, _ => none
def bigOk (i : Int) : Bool := decide (i.natAbs < 2 ^ 4000)
def smallI (i : Int) : Bool := decide (-(2 ^ 64) < i) && decide (i < 2 ^ 64)
def mulD : D → D → Option D
  | .int i, .int j => if smallI i || smallI j || (bigOk i && bigOk j) then some (.int (i * j)) else none
  | .list xs, .int k => if decide (xs.length * k.toNat ≤ maxSize) && decide (k ≤ maxSize) && decide (-maxSize ≤ k) then some (.list (List.replicate k.toNat xs).flatten) else none
  | .tuple xs, .int k => if decide (xs.length ≤ 1000) && decide (k ≤ 1000) && decide (2 ≤ k) && decide (0 < xs.length) then some (.tuple (List.replicate k.toNat xs).flatten) else none
  | _, _ => none
def fdivD : D → D → Option D
  | .int i, .int j => if 0 < j ∧ j < 1073741824 then some (.int (i / j)) else none
  | _, _ => none
def modD : D → D → Option D
  | .int i, .int j => if 0 < j then some (.int (i % j)) else none
  | _, _ => none
def ixD : D → D → Option D
  | .list xs, .int i => atI xs i
  | .tuple xs, .int i => atI xs i
  | _, _ => none
def cutL (xs : List D) (lo hi : Option Int) : List D := (xs.drop (HT.sIx xs.length 0 lo)).take (HT.sIx xs.length xs.length hi - HT.sIx xs.length 0 lo)
def cutD (d : D) (lo hi : Option Int) : Option D := match d with
  | .list xs => some (.list (cutL xs lo hi))
  | .tuple xs => some (.tuple (cutL xs lo hi))
  | _ => none
def isFlat : D → Bool
  | .none | .bool _ => true
  | _ => false
/-- data that == may look at -/
def eqOk (d : D) : Bool := SeqAt.shaped d
def ordOk (a b : D) : Bool := eqOk a && eqOk b && PySem.W.alike a b && (match a with | .none => false | _ => true)
def cmpD (o : Op) (a b : D) : Option Bool := match o with
  | .eq => match a, b with | .str x, .str y => some (x == y) | _, _ => if eqOk a && eqOk b then some (PyData.eqv a b) else none
  | .ne => match a, b with | .str x, .str y => some (!(x == y)) | _, _ => if eqOk a && eqOk b then some (!PyData.eqv a b) else none
  | .lt => match a, b with | .int i, .int j => some (decide (i < j)) | _, _ => if ordOk a b then some (ltD a b) else none
  | .gt => match a, b with | .int i, .int j => some (decide (j < i)) | _, _ => if ordOk a b then some (ltD b a) else none
  | .le => match a, b with | .int i, .int j => some (decide (i ≤ j)) | _, _ => none
  | .ge => match a, b with | .int i, .int j => some (decide (j ≤ i)) | _, _ => none
  | .isIn => match b with
    | .list xs => if eqOk a && eqOk b then some (xs.any fun y => PyData.eqv y a) else none
    | .tuple xs => if eqOk a && eqOk b then some (xs.any fun y => PyData.eqv y a) else none
    | _ => none
  | .notIn => match b with
    | .list xs => if eqOk a && eqOk b then some (!xs.any fun y => PyData.eqv y a) else none
    | .tuple xs => if eqOk a && eqOk b then some (!xs.any fun y => PyData.eqv y a) else none
    | _ => none
  | .is_ => match b with
    | .none => some (match a with | .none => true | _ => false)
    | .bool c => match a with | .bool e => some (e == c) | _ => none
    | _ => none
  | .isnot => match b with
    | .none => some (match a with | .none => false | _ => true)
    | .bool c => match a with | .bool e => some (!(e == c)) | _ => none
    | _ => none
def kdOf : Kd → D → Bool
  | .int, .int _ => true
  | .int, .bool _ => true
  | .bool, .bool _ => true
  | .str, .str _ => true
  | .tuple, .tuple _ => true
  | .list, .list _ => true
  | .seq, .list _ => true
  | .seq, .tuple _ => true
  | _, _ => false
/-- equal ones once, the first kept -/
def dedup : List D → List D
  | [] => []
  | x :: xs => x :: (dedup xs).filter fun y => !PyData.eqv y x
def isD0 : D → Bool
  | .dict [] => true
  | _ => false
def reprOk (d : D) : Bool := d.showable && decide (d.shown.length ≤ sizeLine) && decide (d.depth ≤ 30) && (!d.hasDict || isD0 d)
def rngD (a b : Int) : List D := (List.range (b - a).toNat).map fun k => .int (a + (k : Nat))
/-- one after another, thing by thing -/
def compL (asg : D → Option Dl) (cond : Dl → Pot → Option (Bool × Pot)) (elt : Dl → Pot → Option (D × Pot)) : List D → Pot → Option (List D × Pot)
  | [], π => some ([], π)
  | d :: ds, π => do
    let δ ← asg d
    let (b, π1) ← cond δ π
    if b then
      let (y, π2) ← elt δ π1
      let (ys, π3) ← compL asg cond elt ds π2
      pure (y :: ys, π3)
    else compL asg cond elt ds π1
mutual
def asgP : Pt → D → Dl → Option Dl
  | .v i, d, δ => if i < δ.length then some (δ.set i (.val d)) else none
  | .t ps, d, δ => match d with
    | .tuple xs => asgPs ps xs δ
    | _ => none
def asgPs : Pts → List D → Dl → Option Dl
  | .nil, [], δ => some δ
  | .cons p ps, d :: ds, δ => do let δ1 ← asgP p d δ; asgPs ps ds δ1
  | _, _, _ => none
end
def wipeD (δ : Dl) : List Nat → Dl
  | [] => δ
  | v :: vs => (wipeD δ vs).set v .no
section
variable (Γ : Tab)
mutual
def evE : E → Dl → Pot → Option (D × Pot)
  | .var i, δ, π => match δ[i]? with
    | some (.val d) => some (d, π)
    | some (.own d) => some (d, π)
    | _ => none
  | .non, _, π => some (.none, π)
  | .bl b, _, π => some (.bool b, π)
  | .int i, _, π => some (.int i, π)
  | .str x, _, π => some (.str x, π)
  | .glob x, _, π => do let d ← Γ.glb x; pure (d, π)
  | .tup es, δ, π => do let (xs, π) ← evEs es δ π; pure (.tuple xs, π)
  | .lst es, δ, π => do let (xs, π) ← evEs es δ π; pure (.list xs, π)
  | .dnil, _, π => some (.dict [], π)
  | .add a b, δ, π => do let (x, π) ← evE a δ π; let (y, π) ← evE b δ π; let z ← addD x y; pure (z, π)
  | .sub a b, δ, π => do let (x, π) ← evE a δ π; let (y, π) ← evE b δ π; let i ← asInt x; let j ← asInt y; pure (.int (i - j), π)
  | .mul a b, δ, π => do let (x, π) ← evE a δ π; let (y, π) ← evE b δ π; let z ← mulD x y; pure (z, π)
  | .fdiv a b, δ, π => do let (x, π) ← evE a δ π; let (y, π) ← evE b δ π; let z ← fdivD x y; pure (z, π)
  | .mod a b, δ, π => do let (x, π) ← evE a δ π; let (y, π) ← evE b δ π; let z ← modD x y; pure (z, π)
  | .pow a b, _, π => if a < 100 ∧ b < 1000 then some (.int ((a : Int) ^ b), π) else none
  | .neg a, δ, π => do let (x, π) ← evE a δ π; let i ← asInt x; pure (.int (-i), π)
  | .cmp o a b, δ, π => do let (x, π) ← evE a δ π; let (y, π) ← evE b δ π; let c ← cmpD o x y; pure (.bool c, π)
  | .cmp2 o p a b c, δ, π => do
    let (x, π) ← evE a δ π
    let (y, π) ← evE b δ π
    let k ← cmpD o x y
    if k then
      let (z, π) ← evE c δ π
      let k2 ← cmpD p y z
      pure (.bool k2, π)
    else pure (.bool false, π)
  | .all_ es, δ, π => evAnd es δ π
  | .any_ es, δ, π => evOr es δ π
  | .not a, δ, π => do let (x, π) ← evE a δ π; let b ← asBool x; pure (.bool (!b), π)
  | .ite c a b, δ, π => do
    let (x, π) ← evE c δ π
    let k ← asBool x
    if k then evE a δ π else evE b δ π
  | .ix a i, δ, π => do let (x, π) ← evE a δ π; let (y, π) ← evE i δ π; let z ← ixD x y; pure (z, π)
  | .sl a lo hi, δ, π => do
    let (x, π) ← evE a δ π
    let (l, π) ← evO lo δ π
    let (h, π) ← evO hi δ π
    let z ← cutD x l h
    pure (z, π)
  | .rev a, δ, π => do
    let (x, π) ← evE a δ π
    match x with
    | .list xs => pure (.list xs.reverse, π)
    | .tuple xs => if 2 ≤ xs.length then pure (.tuple xs.reverse, π) else none
    | _ => none
  | .len a, δ, π => do let (x, π) ← evE a δ π; let xs ← items x; pure (.int xs.length, π)
  | .sum a, δ, π => do let (x, π) ← evE a δ π; let xs ← lstOf x; let ns ← allInt xs; pure (.int ns.sum, π)
  | .all a, δ, π => do let (x, π) ← evE a δ π; let xs ← lstOf x; let bs ← allBool xs; pure (.bool (bs.all id), π)
  | .any a, δ, π => do let (x, π) ← evE a δ π; let xs ← lstOf x; let bs ← allBool xs; pure (.bool (bs.any id), π)
  | .sorted t a, δ, π => do
    let (x, π) ← evE a δ π
    let xs ← items x
    if xs.all (isT t) && xs.all eqOk && decide (xs.length ≤ maxSize) then pure (.list (sortD ltD xs), π) else none
  | .sset t a, δ, π => do
    let (x, π) ← evE a δ π
    let xs ← items x
    let ys := dedup xs
    if xs.all (isT t) && xs.all eqOk && decide (ys.length ≤ 64) && decide (xs.length ≤ maxSize) then pure (.list (sortD ltD ys), π) else none
  | .lset a, δ, π => do
    let (x, π) ← evE a δ π
    let xs ← items x
    if xs.all (isT .int) && decide (xs.length < 64) then pure (.int (dedup xs).length, π) else none
  | .list a, δ, π => do let (x, π) ← evE a δ π; let xs ← items x; pure (.list xs, π)
  | .tuple a, δ, π => do let (x, π) ← evE a δ π; let xs ← items x; pure (.tuple xs, π)
  | .rngL a, δ, π => do let (x, π) ← evE a δ π; let i ← asInt x; if i ≤ 1000 ∧ 0 ≤ i then pure (.list (rngD 0 i), π) else none
  | .rngT a, δ, π => do let (x, π) ← evE a δ π; let i ← asInt x; if i ≤ 1000 ∧ 0 ≤ i then pure (.tuple (rngD 0 i), π) else none
  | .toInt a, δ, π => do
    let (x, π) ← evE a δ π
    match x with
    | .int i => pure (.int i, π)
    | .bool b => pure (.int (if b then 1 else 0), π)
    | _ => none
  | .abs a, δ, π => do let (x, π) ← evE a δ π; let i ← asInt x; pure (.int (if i < 0 then -i else i), π)
  | .repr a, δ, π => do let (x, π) ← evE a δ π; if reprOk x then pure (.str x.shown, π) else none
  | .min2 a b, δ, π => do let (x, π) ← evE a δ π; let (y, π) ← evE b δ π; let i ← asInt x; let j ← asInt y; pure (.int (if j < i then j else i), π)
  | .max2 a b, δ, π => do let (x, π) ← evE a δ π; let (y, π) ← evE b δ π; let i ← asInt x; let j ← asInt y; pure (.int (if j > i then j else i), π)
  | .minL t a, δ, π => do
    let (x, π) ← evE a δ π
    match x with
    | .list (y :: ys) => if (y :: ys).all (isT t) && (y :: ys).all eqOk && decide (ys.length < maxSize) then pure (minD ltD y ys, π) else none
    | _ => none
  | .maxL a, δ, π => do
    let (x, π) ← evE a δ π
    match x with
    | .list (y :: ys) => if (y :: ys).all (isT .int) then pure (maxD ltD y ys, π) else none
    | _ => none
  | .isi k a, δ, π => do let (x, π) ← evE a δ π; pure (.bool (kdOf k x), π)
  | .count a b, δ, π => do
    let (x, π) ← evE a δ π; let (y, π) ← evE b δ π
    match x, y with
    | .list xs, .int _ => if xs.all (isT .int) then pure (.int (xs.filter (PyData.eqv · y)).length, π) else none
    | _, _ => none
  | .index a b, δ, π => do
    let (x, π) ← evE a δ π; let (y, π) ← evE b δ π
    let xs ← items x
    if eqOk x && eqOk y then
      match xs.findIdx? (fun z => PyData.eqv z y) with
      | some k => pure (.int k, π)
      | none => none
    else none
  | .call f es, δ, π => do
    let g ← Γ.fn f
    let (xs, π) ← evEs es δ π
    let d ← g xs
    pure (d, π)
  | .callk f ks perm ps es, δ, π => do
    let g ← Γ.fn f
    let (xs, π) ← evEs ps δ π
    let (ys, π) ← evEs es δ π
    if Γ.kw f ks perm && decide ((xs ++ ys).length = perm.length) && decide (ys.length = ks.length) then
      let d ← g (perm.map fun k => (xs ++ ys).getD k .none)
      pure (d, π)
    else none
  | .callp f p es, δ, π => match δ[p]?, π with
    | some .pot, some _ => do
      let g ← Γ.pf f
      let (xs, π2) ← evEs es δ π
      match π2 with
      | some xy => do let (d, xy') ← g xs xy; pure (d, some xy')
      | none => none
    | _, _ => none
  | .pot0 p, δ, π => match δ[p]?, π with
    | some .pot, some xy => some (.int xy.1, π)
    | _, _ => none
  | .pot1 p, δ, π => match δ[p]?, π with
    | some .pot, some xy => some (.int xy.2, π)
    | _, _ => none
  | .slen p, δ, π => match δ[p]? with
    | some (.scr ns) => some (.int ns.length, π)
    | _ => none
  | .six p e, δ, π => do
    let (x, π) ← evE e δ π
    let i ← asInt x
    match δ[p]? with
    | some (.scr ns) => do let k ← atI ns i; pure (.int k, π)
    | _ => none
  | .calls f p e, δ, π => do
    let g ← Γ.sf f
    let (x, π) ← evE e δ π
    let i ← asInt x
    match δ[p]? with
    | some (.scr ns) => do let k ← g ns i; pure (.list [.int k.1, .int k.2], π)
    | _ => none
  | .calln f h p e es, δ, π => match π with
    | none => do
      let g ← Γ.pf f
      let g2 ← Γ.sf h
      let (x, π1) ← evE e δ none
      let i ← asInt x
      match δ[p]? with
      | some (.scr ns) => do
        let k ← g2 ns i
        let (xs, π2) ← evEs es δ π1
        let (d, _) ← g xs k
        pure (d, π2)
      | _ => none
    | some _ => none
  | .comp elt pt it own cond, δ, π => do
    let (ds, π1) ← evI it δ π
    if ds.length ≤ maxSize then
      let (ys, π2) ← compL (fun d => asgP pt d (wipeD δ (own.map (·.2)))) (fun δ' π' => evC cond δ' π') (fun δ' π' => evE elt δ' π') ds π1
      pure (.list ys, π2)
    else none
def evEs : Es → Dl → Pot → Option (List D × Pot)
  | .nil, _, π => some ([], π)
  | .cons e es, δ, π => do let (x, π) ← evE e δ π; let (xs, π) ← evEs es δ π; pure (x :: xs, π)
def evAnd : Es → Dl → Pot → Option (D × Pot)
  | .nil, _, _ => none
  | .cons e .nil, δ, π => evE e δ π
  | .cons e (.cons f es), δ, π => do
    let (x, π) ← evE e δ π
    let b ← asBool x
    if b then evAnd (.cons f es) δ π else pure (.bool false, π)
def evOr : Es → Dl → Pot → Option (D × Pot)
  | .nil, _, _ => none
  | .cons e .nil, δ, π => evE e δ π
  | .cons e (.cons f es), δ, π => do
    let (x, π) ← evE e δ π
    let b ← asBool x
    if b then pure (.bool true, π) else evOr (.cons f es) δ π
def evO : Oe → Dl → Pot → Option (Option Int × Pot)
  | .no, _, π => some (none, π)
  | .yes e, δ, π => do let (x, π) ← evE e δ π; let i ← asInt x; if i.natAbs < 2 ^ 62 then pure (some i, π) else none
def evC : Oe → Dl → Pot → Option (Bool × Pot)
  | .no, _, π => some (true, π)
  | .yes e, δ, π => do let (x, π) ← evE e δ π; let b ← asBool x; pure (b, π)
def evI : It → Dl → Pot → Option (List D × Pot)
  | .seq a, δ, π => do let (x, π) ← evE a δ π; let xs ← items x; pure (xs, π)
  | .rng a, δ, π => do let (x, π) ← evE a δ π; let i ← asInt x; if i.natAbs < 2 ^ 61 then pure (rngD 0 i, π) else none
  | .rng2 a b, δ, π => do
    let (x, π) ← evE a δ π; let (y, π) ← evE b δ π; let i ← asInt x; let j ← asInt y
    if i.natAbs < 2 ^ 61 ∧ j.natAbs < 2 ^ 61 then pure (rngD i j, π) else none
  | .zip a b, δ, π => do
    let (x, π) ← evE a δ π; let (y, π) ← evE b δ π; let xs ← items x; let ys ← items y
    pure ((xs.zip ys).map fun p => .tuple [p.1, p.2], π)
  | .enum a, δ, π => do
    let (x, π) ← evE a δ π
    match x with
    | .list xs => pure (xs.zipIdx.map fun p => .tuple [.int p.2, p.1], π)
    | _ => none
end
end
end Z
/-! statements of the small language -/
namespace Z
open PySem L2
mutual
/-- slots whose list may be what the value is, or stands within it -/
def keeps (Γ : Tab) : E → List Nat
  | .var i => [i]
  | .tup es => keepsS Γ es
  | .lst es => keepsS Γ es
  | .add a b => peeks Γ a ++ peeks Γ b
  | .mul a _ => peeks Γ a
  | .all_ es => keepsS Γ es
  | .any_ es => keepsS Γ es
  | .ite _ a b => keeps Γ a ++ keeps Γ b
  | .ix a _ => peeks Γ a
  | .sl a _ _ => peeks Γ a
  | .rev a => peeks Γ a
  | .sorted _ a => peeks Γ a
  | .sset _ a => peeks Γ a
  | .list a => peeks Γ a
  | .tuple a => peeks Γ a
  | .minL _ a => peeks Γ a
  | .call _ es => keepsS Γ es
  | .callk _ _ _ ps es => keepsS Γ ps ++ keepsS Γ es
  | .callp _ _ es => keepsS Γ es
  | .calln _ _ _ _ es => keepsS Γ es
  | .comp elt _ it own _ => (keeps Γ elt).filter (fun i => !(own.map (·.2)).contains i) ++ keepsI Γ it
  | _ => []
/-- the same where the value itself is only looked at, its items may be handed on -/
def peeks (Γ : Tab) : E → List Nat
  | .var _ => []
  | .tup es => keepsS Γ es
  | .lst es => keepsS Γ es
  | .add a b => peeks Γ a ++ peeks Γ b
  | .mul a _ => peeks Γ a
  | .all_ es => keepsS Γ es
  | .any_ es => keepsS Γ es
  | .ite _ a b => keeps Γ a ++ keeps Γ b
  | .ix a _ => peeks Γ a
  | .sl a _ _ => peeks Γ a
  | .rev a => peeks Γ a
  | .sorted _ a => peeks Γ a
  | .sset _ a => peeks Γ a
  | .list a => peeks Γ a
  | .tuple a => peeks Γ a
  | .minL _ a => peeks Γ a
  | .call _ es => keepsS Γ es
  | .callk _ _ _ ps es => keepsS Γ ps ++ keepsS Γ es
  | .callp _ _ es => keepsS Γ es
  | .calln _ _ _ _ es => keepsS Γ es
  | .comp elt _ it own _ => (keeps Γ elt).filter (fun i => !(own.map (·.2)).contains i) ++ keepsI Γ it
  | _ => []
def keepsS (Γ : Tab) : Es → List Nat
  | .nil => []
  | .cons e es => keeps Γ e ++ keepsS Γ es
def keepsI (Γ : Tab) : It → List Nat
  | .seq a => peeks Γ a
  | .rng _ => []
  | .rng2 _ _ => []
  | .zip a b => peeks Γ a ++ peeks Γ b
  | .enum a => peeks Γ a
end
/-- a list that this makes is a new one -/
def fresh (Γ : Tab) : E → Bool
  | .lst _ | .add _ _ | .mul _ _ | .sl _ _ _ | .rev _ | .sorted _ _ | .sset _ _ | .list _ | .rngL _ | .comp .. => true
  | .call f _ => Γ.fresh f
  | .calls .. => true
  | .callk f _ _ _ _ => Γ.fresh f
  | .calln f _ _ _ _ => Γ.fresh f
  | .callp f _ _ => Γ.fresh f
  | _ => false
def mkSl (fr : Bool) (d : D) : Sl := match fr, d with
  | true, .list _ => .own d
  | _, _ => .val d
def demo1 : Sl → Sl
  | .own d => .val d
  | s => s
def demote (δ : Dl) : List Nat → Dl
  | [] => δ
  | i :: is => match (demote δ is)[i]? with
    | some s => (demote δ is).set i (demo1 s)
    | none => demote δ is
mutual
inductive S where
  | asg (i : Nat) (e : E)
  | asgT (p : Pt) (e : E)
  | par (is : List Nat) (es : Es)
  | setI (x : Nat) (i e : E)
  | set2 (x : Nat) (i j e f : E)
  | potDiv (p y : Nat) (e : E)
  | potSet (p : Nat) (e : E)
  | app (x : Nat) (e : E)
  | ext (x : Nat) (e : E)
  | pop (t : Pt) (x : Nat)
  | popAt (i x : Nat) (e : E)
  | appPop (y x : Nat) (e : E)
  | ifS (c : E) (a b : Ss)
  | forS (p : Pt) (it : It) (b : Ss)
  | whl (c : E) (b : Ss)
  | ret (e : E)
  | exp (e : E)
  | raise
inductive Ss where
  | nil
  | cons (s : S) (ss : Ss)
end
inductive Fl where
  | nx (δ : Dl) (π : Pot)
  | rt (d : D) (fr : Bool) (π : Pot)
def forL (asg : D → Dl → Option Dl) (b : Dl → Pot → Option Fl) : List D → Dl → Pot → Option Fl
  | [], δ, π => some (.nx δ π)
  | d :: ds, δ, π => do
    let δ1 ← asg d δ
    match ← b δ1 π with
    | .nx δ2 π2 => forL asg b ds δ2 π2
    | .rt r fr π2 => pure (.rt r fr π2)
def whlL (c : Dl → Pot → Option (Bool × Pot)) (b : Dl → Pot → Option Fl) : Nat → Dl → Pot → Option Fl
  | 0, _, _ => none
  | n + 1, δ, π => do
    let (k, π1) ← c δ π
    if k then
      match ← b δ π1 with
      | .nx δ2 π2 => whlL c b n δ2 π2
      | .rt r fr π2 => pure (.rt r fr π2)
    else pure (.nx δ π1)
def setAll (δ : Dl) : List Nat → List Sl → Option Dl
  | [], [] => some δ
  | i :: is, s :: ss => if i < δ.length then setAll (δ.set i s) is ss else none
  | _, _ => none
def freshes (Γ : Tab) : Es → List Bool
  | .nil => []
  | .cons e es => fresh Γ e :: freshes Γ es
def setAt (δ : Dl) (x k : Nat) (d : D) : Option Dl := match δ[x]? with
  | some (.own (.list xs)) => if k < xs.length then some (δ.set x (.own (.list (xs.set k d)))) else none
  | _ => none
def isVar : E → Option Nat
  | .var i => some i
  | _ => none
section
variable (Γ : Tab)
mutual
def exS : S → Nat → Dl → Pot → Option Fl
  | .asg i e, _, δ, π => do
    let (d, π1) ← evE Γ e δ π
    if i < δ.length then pure (.nx ((demote δ (keeps Γ e)).set i (mkSl (fresh Γ e) d)) π1) else none
  | .asgT p e, _, δ, π => do
    let (d, π1) ← evE Γ e δ π
    let δ1 ← asgP p d (demote δ (keeps Γ e))
    pure (.nx δ1 π1)
  | .par is es, _, δ, π => do
    let (ds, π1) ← evEs Γ es δ π
    let δ1 ← setAll (demote δ (keepsS Γ es)) is ((freshes Γ es).zipWith mkSl ds)
    pure (.nx δ1 π1)
  | .setI x i e, _, δ, π => do
    let (d, π1) ← evE Γ e δ π
    let (j, π2) ← evE Γ i δ π1
    let n ← asInt j
    match (demote δ (keeps Γ e))[x]? with
    | some (.own (.list xs)) => do
      let k ← ixN xs.length n
      let δ1 ← setAt (demote δ (keeps Γ e)) x k d
      pure (.nx δ1 π2)
    | _ => none
  | .set2 x i j e f, _, δ, π => do
    let (d, π1) ← evE Γ e δ π
    let (g, π1) ← evE Γ f δ π1
    let (m, π1) ← evE Γ i δ π1
    let n ← asInt m
    match (demote δ (keeps Γ e ++ keeps Γ f))[x]? with
    | some (.own (.list xs)) => do
      let k ← ixN xs.length n
      let δ1 ← setAt (demote δ (keeps Γ e ++ keeps Γ f)) x k d
      let (m2, π2) ← evE Γ j δ1 π1
      let n2 ← asInt m2
      let k2 ← ixN xs.length n2
      let δ2 ← setAt δ1 x k2 g
      pure (.nx δ2 π2)
    | _ => none
  | .potDiv p y e, _, δ, π => match δ[p]?, π with
    | some .pot, some xy => do
      let (d, π1) ← evE Γ e δ π
      let m ← asInt d
      match π1 with
      | some _ => if 0 < m ∧ m < 1073741824 ∧ y < δ.length ∧ y ≠ p ∧ π1 = π then pure (.nx (δ.set y (.val (.int (xy.1 % m)))) (some (xy.1 / m, xy.2))) else none
      | none => none
    | _, _ => none
  | .potSet p e, _, δ, π => match δ[p]? with
    | some .pot => do
      let (d, π1) ← evE Γ e δ π
      let m ← asInt d
      match π1 with
      | some xy => pure (.nx δ (some (xy.1, m)))
      | none => none
    | _ => none
  | .app x e, _, δ, π => do
    let (d, π1) ← evE Γ e δ π
    match (demote δ (keeps Γ e))[x]? with
    | some (.own (.list xs)) => if xs.length < maxSize then pure (.nx ((demote δ (keeps Γ e)).set x (.own (.list (xs ++ [d])))) π1) else none
    | _ => none
  | .ext x e, _, δ, π => do
    let (d, π1) ← evE Γ e δ π
    match d, (demote δ (keeps Γ e))[x]? with
    | .list ys, some (.own (.list xs)) => if xs.length + ys.length ≤ maxSize then pure (.nx ((demote δ (keeps Γ e)).set x (.own (.list (xs ++ ys)))) π1) else none
    | _, _ => none
  | .pop t x, _, δ, π => match δ[x]? with
    | some (.own (.list xs)) => do
      let d ← xs[xs.length - 1]?
      let δ1 ← asgP t d (δ.set x (.own (.list xs.dropLast)))
      pure (.nx δ1 π)
    | _ => none
  | .popAt i x e, _, δ, π => do
    let (j, π1) ← evE Γ e δ π
    let n ← asInt j
    match δ[x]? with
    | some (.own (.list xs)) => do
      let k ← ixN xs.length n
      let d ← xs[k]?
      if i < δ.length ∧ xs.length ≤ maxSize then pure (.nx ((δ.set x (.own (.list (xs.eraseIdx k)))).set i (.val d)) π1) else none
    | _ => none
  | .appPop y x e, _, δ, π => do
    let (j, π1) ← evE Γ e δ π
    let n ← asInt j
    match δ[x]?, δ[y]? with
    | some (.own (.list xs)), some (.own (.list ys)) => do
      let k ← ixN xs.length n
      let d ← xs[k]?
      if x ≠ y ∧ ys.length < maxSize ∧ xs.length ≤ maxSize then pure (.nx ((δ.set x (.own (.list (xs.eraseIdx k)))).set y (.own (.list (ys ++ [d])))) π1) else none
    | _, _ => none
  | .ifS c a b, n, δ, π => do
    let (d, π1) ← evE Γ c δ π
    let k ← asBool d
    if k then exSs a n δ π1 else exSs b n δ π1
  | .forS p it b, n, δ, π => do
    let (ds, π1) ← evI Γ it δ π
    forL (asgP p) (fun δ π => exSs b n δ π) ds (demote δ (keepsF it)) π1
  | .whl c b, n, δ, π => whlL (fun δ π => do let (d, π) ← evE Γ c δ π; let k ← asBool d; pure (k, π)) (fun δ π => exSs b n δ π) n δ π
  | .ret e, _, δ, π => do
    let (d, π1) ← evE Γ e δ π
    let fr := match isVar e with
      | some i => (match δ[i]? with | some (.own _) => true | _ => false)
      | none => fresh Γ e
    pure (.rt d fr π1)
  | .exp e, _, δ, π => do
    let (_, π1) ← evE Γ e δ π
    pure (.nx δ π1)
  | .raise, _, _, _ => none
def exSs : Ss → Nat → Dl → Pot → Option Fl
  | .nil, _, δ, π => some (.nx δ π)
  | .cons s ss, n, δ, π => do
    match ← exS s n δ π with
    | .nx δ1 π1 => exSs ss n δ1 π1
    | .rt d fr π1 => pure (.rt d fr π1)
/-- what a for walks stays as it is -/
def keepsF : It → List Nat
  | .seq a => keeps Γ a
  | .rng _ => []
  | .rng2 _ _ => []
  | .zip a b => keeps Γ a ++ keeps Γ b
  | .enum a => keeps Γ a
end
end
end Z
/-! data as it stands in the abstract heap -/
namespace Z
open PySem L2
mutual
inductive Rp (K : PySem.W.Frag) (O : Addr → Prop) (H : Hp) : V → D → Prop
  | non : Rp K O H .non .none
  | bl (b : Bool) : Rp K O H (.bl b) (.bool b)
  | int (i : Int) : Rp K O H (.int i) (.int i)
  | str (x : Str) : Rp K O H (.str x) (.str x)
  | lst {a : Addr} {xs : List V} {ds : List D} : H a = some (.lst xs) → ¬ O a → RpAll K O H xs ds → Rp K O H (.ref a) (.list ds)
  | tup {a : Addr} {xs : List V} {ds : List D} : SqT K H a xs → RpAll K O H xs ds → Rp K O H (.ref a) (.tuple ds)
  | dct {a : Addr} : H a = some (.dK []) → Rp K O H (.ref a) (.dict [])
inductive RpAll (K : PySem.W.Frag) (O : Addr → Prop) (H : Hp) : List V → List D → Prop
  | nil : RpAll K O H [] []
  | cons {v : V} {vs : List V} {d : D} {ds : List D} : Rp K O H v d → RpAll K O H vs ds → RpAll K O H (v :: vs) (d :: ds)
end
/-- all but the pot stands as before -/
def SameX (P : Option Addr) (H H' : Hp) : Prop := ∀ b o, P ≠ some b → H b = some o → H' b = some o
theorem SameX.refl {P : Option Addr} {H : Hp} : SameX P H H := fun _ _ _ h => h
theorem SameX.trans {P : Option Addr} {H H1 H2 : Hp} (a : SameX P H H1) (b : SameX P H1 H2) : SameX P H H2 := fun c o n h => b c o n (a c o n h)
theorem SameX.of {P : Option Addr} {H H' : Hp} (h : Same H H') : SameX P H H' := fun c o _ e => h c o e
theorem SameX.upd_new {P : Option Addr} {H : Hp} {p : Addr} {o : HO} (hp : H p = none) : SameX P H (upd H p o) := fun b u _ e => by
  rw [upd_ne (ne_of_none e hp)]; exact e
/-- what a change leaves: every object but those of O, and of O those that are lists -/
def Frm (O : Addr → Prop) (H H' : Hp) : Prop := ∀ b o, (¬ O b ∨ ∀ xs, o ≠ .lst xs) → H b = some o → H' b = some o
section
variable {K : PySem.W.Frag} {O O' : Addr → Prop} {H H' : Hp}
theorem Frm.seqT (f : Frm O H H') {a : Addr} {xs : List V} (h : SqT K H a xs) : SqT K H' a xs := by
  rcases h with (h | ⟨o, h⟩) | h
  · exact .inl (.inl (f a _ (.inr fun ys z => by cases z) h))
  · exact .inl (.inr ⟨o, f a _ (.inr fun ys z => by cases z) h⟩)
  · exact .inr h
mutual
theorem Rp.frame (f : Frm O H H') : ∀ (d : D) (v : V), Rp K O H v d → Rp K O H' v d
  | .none, _, h => by cases h; exact .non
  | .bool b, _, h => by cases h; exact .bl b
  | .int i, _, h => by cases h; exact .int i
  | .str x, _, h => by cases h; exact .str x
  | .list ds, _, h => by
    cases h with
    | lst h1 h2 h3 => exact .lst (f _ _ (.inl h2) h1) h2 (RpAll.frame f ds _ h3)
  | .tuple ds, _, h => by
    cases h with
    | tup h1 h3 => exact .tup (f.seqT h1) (RpAll.frame f ds _ h3)
  | .dict _, _, h => by
    cases h with
    | dct h1 => exact .dct (f _ _ (.inr fun ys z => by cases z) h1)
theorem RpAll.frame (f : Frm O H H') : ∀ (ds : List D) (vs : List V), RpAll K O H vs ds → RpAll K O H' vs ds
  | [], _, h => by cases h; exact .nil
  | d :: ds, _, h => by
    cases h with
    | cons h1 h2 => exact .cons (Rp.frame f d _ h1) (RpAll.frame f ds _ h2)
end
mutual
theorem Rp.less (f : ∀ a, O' a → O a) : ∀ (d : D) (v : V), Rp K O H v d → Rp K O' H v d
  | .none, _, h => by cases h; exact .non
  | .bool b, _, h => by cases h; exact .bl b
  | .int i, _, h => by cases h; exact .int i
  | .str x, _, h => by cases h; exact .str x
  | .list ds, _, h => by
    cases h with
    | lst h1 h2 h3 => exact .lst h1 (fun z => h2 (f _ z)) (RpAll.less f ds _ h3)
  | .tuple ds, _, h => by
    cases h with
    | tup h1 h3 => exact .tup h1 (RpAll.less f ds _ h3)
  | .dict _, _, h => by
    cases h with
    | dct h1 => exact .dct h1
theorem RpAll.less (f : ∀ a, O' a → O a) : ∀ (ds : List D) (vs : List V), RpAll K O H vs ds → RpAll K O' H vs ds
  | [], _, h => by cases h; exact .nil
  | d :: ds, _, h => by
    cases h with
    | cons h1 h2 => exact .cons (Rp.less f d _ h1) (RpAll.less f ds _ h2)
end
mutual
theorem Rp.avoid {K : PySem.W.Frag} {p : Addr} (hp : H p = none) : ∀ (d : D) (v : V), Rp K O H v d → Rp K (fun a => O a ∨ a = p) H v d
  | .none, _, h => by cases h; exact .non
  | .bool b, _, h => by cases h; exact .bl b
  | .int i, _, h => by cases h; exact .int i
  | .str x, _, h => by cases h; exact .str x
  | .list ds, _, h => by
    cases h with
    | lst h1 h2 h3 => exact .lst h1 (fun z => z.elim h2 fun z => by subst z; rw [hp] at h1; cases h1) (RpAll.avoid hp ds _ h3)
  | .tuple ds, _, h => by
    cases h with
    | tup h1 h3 => exact .tup h1 (RpAll.avoid hp ds _ h3)
  | .dict _, _, h => by
    cases h with
    | dct h1 => exact .dct h1
theorem RpAll.avoid {K : PySem.W.Frag} {p : Addr} (hp : H p = none) : ∀ (ds : List D) (vs : List V), RpAll K O H vs ds → RpAll K (fun a => O a ∨ a = p) H vs ds
  | [], _, h => by cases h; exact .nil
  | d :: ds, _, h => by
    cases h with
    | cons h1 h2 => exact .cons (Rp.avoid hp d _ h1) (RpAll.avoid hp ds _ h2)
end
theorem RpAll.length {vs : List V} : ∀ {ds : List D}, RpAll K O H vs ds → vs.length = ds.length := fun {ds} h => by
  induction ds generalizing vs with
  | nil => cases h; rfl
  | cons d ds ih => cases h with | cons h1 h2 => simp [ih h2]
theorem RpAll.get {vs : List V} {ds : List D} (h : RpAll K O H vs ds) : ∀ {i : Nat} {d : D}, ds[i]? = some d → ∃ v, vs[i]? = some v ∧ Rp K O H v d := by
  induction ds generalizing vs with
  | nil => intro i d e; simp at e
  | cons x xs ih =>
    cases h with
    | cons h1 h2 =>
      intro i d e
      cases i with
      | zero => simp at e; subst e; exact ⟨_, rfl, h1⟩
      | succ i => obtain ⟨v, a, b⟩ := ih h2 (i := i) (by simpa using e); exact ⟨v, by simpa using a, b⟩
theorem RpAll.getV {vs : List V} {ds : List D} (h : RpAll K O H vs ds) : ∀ {i : Nat} {v : V}, vs[i]? = some v → ∃ d, ds[i]? = some d ∧ Rp K O H v d := by
  induction ds generalizing vs with
  | nil => cases h; intro i d e; simp at e
  | cons x xs ih =>
    cases h with
    | cons h1 h2 =>
      intro i v e
      cases i with
      | zero => simp at e; subst e; exact ⟨_, rfl, h1⟩
      | succ i => obtain ⟨d, a, b⟩ := ih h2 (i := i) (by simpa using e); exact ⟨d, by simpa using a, b⟩
theorem RpAll.append {vs ws : List V} {ds es : List D} (h : RpAll K O H vs ds) (g : RpAll K O H ws es) : RpAll K O H (vs ++ ws) (ds ++ es) := by
  induction ds generalizing vs with
  | nil => cases h; exact g
  | cons x xs ih => cases h with | cons h1 h2 => exact .cons h1 (ih h2)
theorem RpAll.take {vs : List V} {ds : List D} (h : RpAll K O H vs ds) : ∀ n, RpAll K O H (vs.take n) (ds.take n) := by
  induction ds generalizing vs with
  | nil => cases h; intro n; simp; exact .nil
  | cons x xs ih =>
    cases h with
    | cons h1 h2 =>
      intro n
      cases n with
      | zero => exact .nil
      | succ n => exact .cons h1 (ih h2 n)
theorem RpAll.drop {vs : List V} {ds : List D} (h : RpAll K O H vs ds) : ∀ n, RpAll K O H (vs.drop n) (ds.drop n) := by
  induction ds generalizing vs with
  | nil => cases h; intro n; simp; exact .nil
  | cons x xs ih =>
    cases h with
    | cons h1 h2 =>
      intro n
      cases n with
      | zero => exact .cons h1 h2
      | succ n => exact ih h2 n
theorem RpAll.reverse {vs : List V} {ds : List D} (h : RpAll K O H vs ds) : RpAll K O H vs.reverse ds.reverse := by
  induction ds generalizing vs with
  | nil => cases h; exact .nil
  | cons x xs ih =>
    cases h with
    | cons h1 h2 =>
      rw [List.reverse_cons, List.reverse_cons]
      exact (ih h2).append (.cons h1 .nil)
theorem RpAll.set {vs : List V} {ds : List D} {v : V} {d : D} (h : RpAll K O H vs ds) (r : Rp K O H v d) : ∀ n, RpAll K O H (vs.set n v) (ds.set n d) := by
  induction ds generalizing vs with
  | nil => cases h; intro n; simp; exact .nil
  | cons x xs ih =>
    cases h with
    | cons h1 h2 =>
      intro n
      cases n with
      | zero => exact .cons r h2
      | succ n => exact .cons h1 (ih h2 n)
theorem RpAll.eraseIdx {vs : List V} {ds : List D} (h : RpAll K O H vs ds) : ∀ n, RpAll K O H (vs.eraseIdx n) (ds.eraseIdx n) := by
  induction ds generalizing vs with
  | nil => cases h; intro n; simp; exact .nil
  | cons x xs ih =>
    cases h with
    | cons h1 h2 =>
      intro n
      cases n with
      | zero => exact h2
      | succ n => exact .cons h1 (ih h2 n)
theorem RpAll.dropLast {vs : List V} {ds : List D} (h : RpAll K O H vs ds) : RpAll K O H vs.dropLast ds.dropLast := by
  rw [List.dropLast_eq_take, List.dropLast_eq_take, h.length]; exact h.take _
theorem RpAll.ints : ∀ (ns : List Int), RpAll K O H (ns.map V.int) (ns.map PyData.int)
  | [] => .nil
  | n :: ns => .cons (.int n) (RpAll.ints ns)
theorem RpAll.of_ints : ∀ {ns : List Int} {vs : List V}, RpAll K O H vs (ns.map PyData.int) → vs = ns.map V.int
  | [], _, h => by cases h; rfl
  | n :: ns, _, h => by
    cases h with
    | cons h1 h2 => cases h1; rw [RpAll.of_ints h2]; rfl
theorem allInt_map : ∀ {xs : List D} {ns : List Int}, allInt xs = some ns → xs = ns.map PyData.int
  | [], ns, h => by simp [allInt] at h; subst h; rfl
  | x :: xs, ns, h => by
    simp only [allInt, Option.bind_eq_bind] at h
    cases x with
    | int i =>
      simp only [asInt, Option.bind_some] at h
      cases e : allInt xs with
      | none => rw [e] at h; simp at h
      | some r => rw [e] at h; simp at h; subst h; rw [allInt_map e]; rfl
    | _ => simp [asInt] at h
theorem allBool_map : ∀ {xs : List D} {ns : List Bool}, allBool xs = some ns → xs = ns.map PyData.bool
  | [], ns, h => by simp [allBool] at h; subst h; rfl
  | x :: xs, ns, h => by
    simp only [allBool, Option.bind_eq_bind] at h
    cases x with
    | bool i =>
      simp only [asBool, Option.bind_some] at h
      cases e : allBool xs with
      | none => rw [e] at h; simp at h
      | some r => rw [e] at h; simp at h; subst h; rw [allBool_map e]; rfl
    | _ => simp [asBool] at h
theorem RpAll.of_bools : ∀ {ns : List Bool} {vs : List V}, RpAll K O H vs (ns.map PyData.bool) → vs = ns.map V.bl
  | [], _, h => by cases h; rfl
  | n :: ns, _, h => by
    cases h with
    | cons h1 h2 => cases h1; rw [RpAll.of_bools h2]; rfl
end
/-- a list that is locked, or of the written part -/
def SqF (K : PySem.W.Frag) (H : Hp) (a : Addr) (xs : List V) : Prop := (∃ o, H a = some (.frz o (.lst xs))) ∨ SqL K (fun _ => none) a xs
theorem SqF.seq {K : PySem.W.Frag} {H : Hp} {a : Addr} {xs : List V} (h : SqF K H a xs) : SqL K H a xs := by
  rcases h with ⟨o, h⟩ | (h | ⟨o, h⟩) | h
  · exact .inl (.inr ⟨o, h⟩)
  · cases h
  · cases h
  · exact .inr h
/-! ### the state -/
structure RS (K : PySem.W.Frag) (O : Addr → Prop) (P : Option Addr) (σ : St) (H : Hp) (δ : Dl) (π : Pot) : Prop where
  len : δ.length = σ.length
  val : ∀ (i : Nat) (d : D), δ[i]? = some (Sl.val d) → ∃ v, σ[i]? = some (some v) ∧ Rp K O H v d
  own : ∀ (i : Nat) (d : D), δ[i]? = some (Sl.own d) → ∃ a vs ds, d = .list ds ∧ σ[i]? = some (some (.ref a)) ∧ H a = some (.lst vs) ∧ RpAll K O H vs ds ∧ P ≠ some a
  pot : ∀ (i : Nat), δ[i]? = some Sl.pot → ∃ p, P = some p ∧ σ[i]? = some (some (.ref p))
  scr : ∀ (i : Nat) (ns : List Int), δ[i]? = some (Sl.scr ns) → ∃ a, σ[i]? = some (some (.ref a)) ∧ SqF K H a (ns.map V.int)
  at_ : ∀ p, P = some p → O p ∧ ∃ x y, π = some (x, y) ∧ H p = some (.lst [.int x, .int y])
  in_ : ∀ a, O a → ∃ xs, H a = some (.lst xs)
def PotAt (P : Option Addr) (H : Hp) (π : Pot) : Prop := ∀ p, P = some p → ∃ x y, π = some (x, y) ∧ H p = some (.lst [.int x, .int y])
section
variable {K : PySem.W.Frag} {O O' : Addr → Prop} {H H' : Hp} {P : Option Addr} {σ : St} {δ : Dl} {π π' : Pot}
theorem RS.potAt (R : RS K O P σ H δ π) : PotAt P H π := fun p e => (R.at_ p e).2
theorem frm_of (ha : ∀ p, P = some p → O p ∧ ∃ xs, H p = some (.lst xs)) (s : SameX P H H') : Frm O H H' := fun b o n e => by
  refine s b o (fun z => ?_) e
  obtain ⟨h1, xs, h2⟩ := ha b z
  rcases n with n | n
  · exact n h1
  · rw [e] at h2; cases h2; exact n xs rfl
theorem RS.frm (R : RS K O P σ H δ π) (s : SameX P H H') : Frm O H H' := frm_of (fun p e => ⟨(R.at_ p e).1, let ⟨_, _, _, h⟩ := (R.at_ p e).2; ⟨_, h⟩⟩) s
theorem RS.next (R : RS K O P σ H δ π) (s : SameX P H H') (q : PotAt P H' π') : RS K O P σ H' δ π' where
  len := R.len
  val := fun i d e => let ⟨v, h1, h2⟩ := R.val i d e; ⟨v, h1, Rp.frame (R.frm s) _ _ h2⟩
  own := fun i d e => let ⟨a, vs, ds, h0, h1, h2, h3, h4⟩ := R.own i d e; ⟨a, vs, ds, h0, h1, s a _ h4 h2, RpAll.frame (R.frm s) _ _ h3, h4⟩
  pot := R.pot
  scr := fun i ns e => by
    obtain ⟨a, h1, h2⟩ := R.scr i ns e
    refine ⟨a, h1, ?_⟩
    rcases h2 with ⟨o, h2⟩ | h2
    · refine .inl ⟨o, s a _ (fun z => ?_) h2⟩
      obtain ⟨_, _, _, _, e⟩ := R.at_ a z; rw [e] at h2; cases h2
    · exact .inr h2
  at_ := fun p e => ⟨(R.at_ p e).1, q p e⟩
  in_ := fun a h => by
    by_cases hp : P = some a
    · obtain ⟨x, y, _, e⟩ := q a hp; exact ⟨_, e⟩
    · obtain ⟨xs, e⟩ := R.in_ a h; exact ⟨xs, s a _ hp e⟩
theorem RS.less (R : RS K O P σ H δ π) (f : ∀ a, O' a → O a) (hp : ∀ p, P = some p → O' p) : RS K O' P σ H δ π where
  len := R.len
  val := fun i d e => let ⟨v, h1, h2⟩ := R.val i d e; ⟨v, h1, Rp.less f _ _ h2⟩
  own := fun i d e => let ⟨a, vs, ds, h0, h1, h2, h3, h4⟩ := R.own i d e; ⟨a, vs, ds, h0, h1, h2, RpAll.less f _ _ h3, h4⟩
  pot := R.pot
  scr := R.scr
  at_ := fun p e => ⟨hp p e, (R.at_ p e).2⟩
  in_ := fun a h => R.in_ a (f a h)
/-- the least O: the pot -/
def potO (P : Option Addr) : Addr → Prop := fun a => P = some a
theorem RS.least (R : RS K O P σ H δ π) : RS K (potO P) P σ H δ π := R.less (fun a h => (R.at_ a h).1) fun _ h => h
end
end Z
/-! defs, called where no repr is under way -/
namespace Z
open PySem L2 PySem.Spec PyProof.Rows
structure FnG (P : Program) (w : World) (K : PySem.W.Frag) (mg : Str → Option Value) (base : Heap) (k : Nat) (f : Addr) (fd : FuncData) (ps : List Str) (sp : Sp) : Prop where
  len : ∀ vs H Q E, sp vs H Q E → vs.length = ps.length
  run : ∀ (A : Around) (outer : List Env) (s : Shared) (H : Hp) (args : Args) (us : List Value) (vs : List V) (Q : VK), Room k A → A.guards = some [] → Env0 P w K mg base A outer s H →
    BindsTo s fd args (ps.zip us) → Vals vs us → sp vs H Q E0 → codeAny (model P w) A (.call (.ref f) args) (CR CX0 outer P w H s Q E0) s
section
variable {P : Program} {w : World} {K : PySem.W.Frag} {mg : Str → Option Value} {base : Heap} {k : Nat} {f : Addr} {fd : FuncData} {ps : List Str} {sp : Sp}
theorem FnG.mono {j : Nat} (F : FnG P w K mg base j f fd ps sp) (h : j ≤ k) : FnG P w K mg base k f fd ps sp :=
  ⟨F.len, fun A outer s H args us vs Q hr => F.run A outer s H args us vs Q (hr.mono h)⟩
theorem FnG.of_body {x qual : Str} {st : Stmt} {N : List Str} (F : Fun K x qual st f fd) (S : FnScope N ps (defScope st)) (len : ∀ vs H Q E, sp vs H Q E → vs.length = ps.length)
    (hbody : ∀ (cdv : Value) (A : Around) (outer : List Env) (s : Shared) (H : Hp) (vs : List V) (Q : VK), Room k (A.deeper (envOfC qual (defScope st) s.heap.objs.size f cdv)) → A.guards = some [] → sp vs H Q E0 →
      ∃ t, PSs (cxOf CX0 P w K mg base N qual (defScope st) f cdv A outer s H E0).nox (defBody st) t ∧ t { nx := fun _ H' => Q .non H', rt := Q } (start N vs) H) :
    FnG P w K mg base (k + 1) f fd ps sp := by
  obtain ⟨oc, od, kV, doc, pm, an, cdv, ct, osl, rfl, lk, hcd⟩ := F.ex
  refine ⟨len, fun A outer s H args us vs Q hr hgd e0 hb r hsp => ?_⟩
  have hl := len _ _ _ _ hsp
  have KX : K.In s.heap := e0.mod.kin.keeps fun b o e => (e0.bs b o e).1
  have lim : s.heap.NoLimit := e0.mod.nolimit.keeps fun b o e => (e0.bs b o e).1
  have hkind : ∀ y ∈ ps.zip us, (defScope st).names.lookup y.1 = some .local ∨ ((defScope st).names.lookup y.1 = some .cell ∧ ((cellsFrom (s.heap.objs.size + 1) (defScope st).names []).lookup y.1).isSome = true) := fun ⟨n, v⟩ hy =>
    (S.par n (List.of_mem_zip hy).1).imp id fun q => ⟨q, PySem.W.cellsFrom_some _ _ _ (.inl q)⟩
  refine codeAny_call_function hr.depth (KX _ _ lk) rfl S.co S.gen rfl (PySem.W.codeRec_of KX hcd) (hb _ _ _ _ ?_)
  refine wpAny_newFunctionEnv_cells S.kind hkind fun env he s1 x => ?_
  subst he
  refine ⟨lim.keeps x.toInCall.keep, codeAny_func ?_⟩
  obtain ⟨t, ht, hq⟩ := hbody cdv A outer s H vs Q (hr.deeper _) hgd hsp
  have J : Inv (cxOf CX0 P w K mg base N qual (defScope st) f cdv A outer s H E0) [] (start N vs) H s1 := inv_start S hr.hd e0 hl r x
  refine wpAny_mono (ht.nox.run [] s1 (start N vs) H _ J hq) (fun fl s' hs => ?_) fun e s' hs => hs
  have fin : ∀ {σ' : L2.St} {H' : Hp} {v : V} {u : Value}, Inv (cxOf CX0 P w K mg base N qual (defScope st) f cdv A outer s H E0) [] σ' H' s' → RelV v u → Q v H' → CE outer P w H s Q u s' :=
    fun {σ' H' v u} J rv q => ⟨v, H', J.os, J.bare, J.base, J.hok, rv, q⟩
  match fl, hs with
  | .ret u, hs => obtain ⟨v, σ', H', J, rv, q⟩ := hs; exact fin J rv q
  | .next, hs => obtain ⟨σ', H', J, q⟩ := hs; exact fin (v := V.non) (u := Value.none) J rfl q
  | .brk, hs => obtain ⟨_, _, _, q⟩ := hs; exact q.elim
  | .cont, hs => obtain ⟨_, _, _, q⟩ := hs; exact q.elim
end
/-- how keywords bind: all values in the order of the call, perm tells for each parameter which one it is -/
def KwB (K : PySem.W.Frag) (fd : FuncData) (ps ks : List Str) (perm : List Nat) : Prop :=
  ∀ (s : Shared) (us ws : List Value), K.In s.heap → (us ++ ws).length = perm.length → ws.length = ks.length → BindsTo s fd ⟨us, ks.zip ws⟩ (ps.zip (perm.map fun i => (us ++ ws).getD i .none))
section
variable {X : Cx} {k : Nat} {f : Addr} {fd : FuncData} {ps : List Str} {sp : Sp} {x : Str} {p pos : Pos} {t tk : TA}
theorem runG {pins : List (Addr × Obj)} {σ : L2.St} {H : Hp} {s : Shared} {Q : VK} {args : Args} {us : List Value} {vs : List V} (F : FnG X.prog X.w X.K X.mg X.base k f fd ps sp) (hr : Room k X.A) (hgd : X.A.guards = some [])
    (I : Inv X pins σ H s) (hb : BindsTo s fd args (ps.zip us)) (r : Vals vs us) (h : sp vs H Q E0) : codeAny (model X.prog X.w) X.A (.call (.ref f) args) (fun r s' => ∃ u, r = .ok (.ret u) ∧ EP X pins σ Q u s') s := by
  refine codeAny_mono (F.run X.A X.stack s H args us vs Q hr hgd I.env0 hb r h) fun r s' hq => ?_
  match r, hq with
  | .error e, hq => exact hq.elim
  | .ok (.ret u), hq => exact ⟨u, rfl, I.after hq⟩
  | .ok .next, hq => exact hq.elim
  | .ok .brk, hq => exact hq.elim
  | .ok .cont, hq => exact hq.elim
theorem callG {pins : List (Addr × Obj)} {σ : L2.St} {H : Hp} {s : Shared} {Q : VK} {E : Value → Shared → Prop} {us0 : List Value} {kw : List (Str × Value)} {us : List Value} {vs : List V} (F : FnG X.prog X.w X.K X.mg X.base k f fd ps sp) (hr : Room k X.A) (hgd : X.A.guards = some [])
    (I : Inv X pins σ H s) (hb : BindsTo s fd ⟨us0, kw⟩ (ps.zip us)) (r : Vals vs us) (h : sp vs H Q E0) : wpAny (model X.prog X.w) X.A (call (.ref f) us0 kw) (EP X pins σ Q) E s := by
  refine wpAny_call (codeAny_mono (runG F hr hgd I hb r h) fun r s' hq => ?_)
  obtain ⟨u, rfl, q⟩ := hq
  exact q
/-- f(e, ..) -/
theorem pe_callG {e : Expr} {es : List Expr} (F : FnG X.prog X.w X.K X.mg X.base k f fd ps sp) (hr : Room k X.A) (hgd : X.A.guards = some []) (hg : Gl X x) (hm : X.mg x = some (.ref f)) (hk : PySem.W.keepIn X.K (.ref f) = true) (hb : Binds X.K fd ps [])
    (ha : PA X (e :: es) t) (hdb : (x == ("__debug__" : Str)) = false) (he : starEach (e :: es) X.env = (false, eval e X.env) :: starEach es X.env) (hpl : (backTo pos (starEach es X.env)).any (·.1) = false) :
    PE X (.Call (.Name x p) (e :: es) [] pos) (fun σ H Q => t σ H fun vs H1 => sp vs H1 Q E0) := by
  refine ⟨fun pins s σ H Q I h => wpAny_Call_Name_kw (ld_glob I hg hm ?_ hdb)⟩
  refine PySem.W.callWith_K (h₀ := X.base) I.ok.mod.kin hk (thn (ha.run pos pins s σ H _ I h) fun us s1 ⟨vs, H1, I1, r, q⟩ => ⟨I1.kIn, ?_⟩) he hpl
  have hl : us.length = ps.length := by rw [← r.length]; exact F.len _ _ _ _ q
  have hb2 : BindsTo s1 fd ⟨us, []⟩ (ps.zip us) := by
    have := hb s1 us I1.kIn (by rw [List.append_nil]; exact hl)
    rwa [List.append_nil] at this
  exact callG F hr hgd I1 hb2 r q
/-- f() -/
theorem pe_callG0 (F : FnG X.prog X.w X.K X.mg X.base k f fd ps sp) (hr : Room k X.A) (hgd : X.A.guards = some []) (hg : Gl X x) (hm : X.mg x = some (.ref f)) (hk : PySem.W.keepIn X.K (.ref f) = true) (hb : Binds X.K fd ps [])
    (hdb : (x == ("__debug__" : Str)) = false) : PE X (.Call (.Name x p) [] [] pos) (fun σ H Q => sp [] H Q E0) := by
  refine ⟨fun pins s σ H Q I h => wpAny_Call_Name_kw (ld_glob I hg hm ?_ hdb)⟩
  have hl : ([] : List Value).length = ps.length := F.len _ _ _ _ h
  have hb2 : BindsTo s fd ⟨[], []⟩ (ps.zip []) := by
    have := hb s [] I.kIn (by rw [List.append_nil]; exact hl)
    rwa [List.append_nil] at this
  exact PySem.W.callWith_K0 I.kIn hk (callG F hr hgd I hb2 .nil h)
/-- f(e, .., k = v, ..) -/
theorem pe_callGK {e : Expr} {es : List Expr} {kws : List Keyword} {ks : List Str} {perm : List Nat} (F : FnG X.prog X.w X.K X.mg X.base k f fd ps sp) (hr : Room k X.A) (hgd : X.A.guards = some []) (hg : Gl X x) (hm : X.mg x = some (.ref f)) (hk : PySem.W.keepIn X.K (.ref f) = true)
    (hb : KwB X.K fd ps ks perm) (ha : PA X (e :: es) t) (hkw : PK X kws tk) (hall : (backToKw pos (keywordEach kws X.env)).all (·.1.isSome) = true) (hks : (backToKw pos (keywordEach kws X.env)).filterMap (·.1) = ks)
    (hdb : (x == ("__debug__" : Str)) = false) (he : starEach (e :: es) X.env = (false, eval e X.env) :: starEach es X.env)
    (hpl : ((backTo pos (starEach (e :: es) X.env)).any (·.1) || (backToKw pos (keywordEach kws X.env)).any (·.1.isNone)) = false) :
    PE X (.Call (.Name x p) (e :: es) kws pos) (fun σ H Q => t σ H fun vs H1 => tk σ H1 fun zs H2 => (vs ++ zs).length = perm.length ∧ zs.length = ks.length ∧ sp (perm.map fun i => (vs ++ zs).getD i .non) H2 Q E0) := by
  refine ⟨fun pins s σ H Q I h => wpAny_Call_Name_kw (ld_glob I hg hm ?_ hdb)⟩
  refine PySem.W.callWith_KW (h₀ := X.base) I.ok.mod.kin hk hall (thn (ha.run pos pins s σ H _ I h) fun us s1 ⟨vs, H1, I1, r, q⟩ => ?_) hpl he
  refine thn (hkw.run pos pins s1 σ H1 _ I1 q) fun ws s2 ⟨zs, H2, I2, rz, h1, h2, q2⟩ => ⟨I2.kIn, ?_⟩
  rw [hks]
  have ra := r.append rz
  have hl : (us ++ ws).length = perm.length := by rw [← ra.length]; exact h1
  refine callG F hr hgd I2 (hb s2 us ws I2.kIn hl (by rw [← rz.length]; exact h2)) ?_ q2
  exact pick perm ra
where
  pick : ∀ (perm : List Nat) {vs : List V} {us : List Value}, Vals vs us → Vals (perm.map fun i => vs.getD i .non) (perm.map fun i => us.getD i .none)
    | [], _, _, _ => .nil
    | i :: is, vs, us, r => .cons (by
        cases e : vs[i]? with
        | some v => obtain ⟨u, e2, rv⟩ := r.get e; simp [List.getD, e, e2, rv]
        | none => have e2 := r.none_of e; simp [List.getD, e, e2, L2.RelV]) (pick is r)
theorem pe_callGK0 {kws : List Keyword} {ks : List Str} {perm : List Nat} (F : FnG X.prog X.w X.K X.mg X.base k f fd ps sp) (hr : Room k X.A) (hgd : X.A.guards = some []) (hg : Gl X x) (hm : X.mg x = some (.ref f)) (hk : PySem.W.keepIn X.K (.ref f) = true)
    (hb : KwB X.K fd ps ks perm) (hkw : PK X kws tk) (hall : (backToKw pos (keywordEach kws X.env)).all (·.1.isSome) = true) (hks : (backToKw pos (keywordEach kws X.env)).filterMap (·.1) = ks)
    (hdb : (x == ("__debug__" : Str)) = false) (hpl : ((backTo pos (starEach [] X.env)).any (·.1) || (backToKw pos (keywordEach kws X.env)).any (·.1.isNone)) = false) :
    PE X (.Call (.Name x p) [] kws pos) (fun σ H Q => tk σ H fun zs H2 => zs.length = perm.length ∧ zs.length = ks.length ∧ sp (perm.map fun i => zs.getD i .non) H2 Q E0) := by
  refine ⟨fun pins s σ H Q I h => wpAny_Call_Name_kw (ld_glob I hg hm ?_ hdb)⟩
  refine PySem.W.callWith_KW0 (h₀ := X.base) I.ok.mod.kin hk hall (thn (hkw.run pos pins s σ H _ I h) fun ws s2 ⟨zs, H2, I2, rz, h1, h2, q2⟩ => ⟨I2.kIn, ?_⟩) hpl
  rw [hks]
  have hl : ([] ++ ws : List Value).length = perm.length := by rw [List.nil_append, ← rz.length]; exact h1
  have := hb s2 [] ws I2.kIn hl (by rw [← rz.length]; exact h2)
  rw [List.nil_append] at this
  exact callG F hr hgd I2 this (pe_callGK.pick perm rz) q2
end
end Z
/-! operations on data, by values -/
namespace Z
open PySem L2 PySem.Spec PyProof.Rows
abbrev VRel := L2.RelV
/-- the value may be looked at, its items handed on -/
def Pk (K : PySem.W.Frag) (O : Addr → Prop) (H : Hp) (v : V) : D → Prop
  | .list ds => ∃ a vs, v = .ref a ∧ H a = some (.lst vs) ∧ RpAll K O H vs ds
  | d => Rp K O H v d
def OkO (O : Addr → Prop) (H : Hp) : Prop := ∀ a, O a → ∃ xs, H a = some (.lst xs)
section
variable {K : PySem.W.Frag} {O : Addr → Prop} {H H' : Hp} {v : V} {d : D} {vs : List V} {ds : List D} {p : Addr}
theorem Rp.pk (h : Rp K O H v d) : Pk K O H v d := by
  cases h with
  | lst h1 h2 h3 => exact ⟨_, _, rfl, h1, h3⟩
  | _ => first | exact .non | exact .bl _ | exact .int _ | exact .str _ | (apply Rp.tup <;> assumption) | (apply Rp.dct <;> assumption)
theorem frm_same (s : Same H H') : Frm O H H' := fun b o _ e => s b o e
theorem Rp.same (s : Same H H') (h : Rp K O H v d) : Rp K O H' v d := Rp.frame (frm_same s) _ _ h
theorem RpAll.same (s : Same H H') (h : RpAll K O H vs ds) : RpAll K O H' vs ds := RpAll.frame (frm_same s) _ _ h
theorem same_upd {o : HO} (hp : H p = none) : Same H (upd H p o) := fun b u e => by rw [upd_ne (ne_of_none e hp)]; exact e
theorem OkO.not (k : OkO O H) (hp : H p = none) : ¬ O p := fun h => by obtain ⟨o, e⟩ := k p h; rw [hp] at e; cases e
theorem new_lst (k : OkO O H) (hp : H p = none) (h : RpAll K O H vs ds) : Rp K O (upd H p (.lst vs)) (.ref p) (.list ds) :=
  .lst upd_same (k.not hp) (h.same (same_upd hp))
theorem new_tup (hp : H p = none) (h : RpAll K O H vs ds) : Rp K O (upd H p (.tup vs)) (.ref p) (.tuple ds) :=
  .tup (SqT.of upd_same) (h.same (same_upd hp))
theorem RpAll.cut (h : RpAll K O H vs ds) (lo hi : Option Int) : RpAll K O H (cutV vs lo hi) (cutL ds lo hi) := by
  unfold cutV cutL
  rw [h.length]
  exact (h.drop _).take _
theorem RpAll.rep (h : RpAll K O H vs ds) : ∀ n : Nat, RpAll K O H (List.replicate n vs).flatten (List.replicate n ds).flatten
  | 0 => .nil
  | n + 1 => by
    rw [List.replicate_succ, List.replicate_succ, List.flatten_cons, List.flatten_cons]
    exact h.append (RpAll.rep h n)
theorem RpAll.atI (h : RpAll K O H vs ds) {i : Int} {x : D} (e : atI ds i = some x) : ∃ v, L2.atI vs i = some v ∧ Rp K O H v x := by
  unfold L2.atI at e ⊢
  rw [h.length]
  cases q : ixN ds.length i with
  | none => rw [q] at e; cases e
  | some j => rw [q] at e; exact h.get e
mutual
theorem Rp.dp : ∀ (d : D) (v : V), Rp K O H v d → d.canLay0 = true → Dp K H v d
  | .none, _, h, _ => by cases h; exact .non
  | .bool b, _, h, _ => by cases h; exact .bl b
  | .int i, _, h, _ => by cases h; exact .int i
  | .str x, _, h, _ => by cases h; exact .str x
  | .list ds, _, h, c => by
    cases h with
    | lst h1 h2 h3 => exact .lst (SqL.of h1) (RpAll.dp ds _ h3 (by simpa [PyData.canLay0] using c))
  | .tuple ds, _, h, c => by
    cases h with
    | tup h1 h3 => exact .tup h1 (RpAll.dp ds _ h3 (by simpa [PyData.canLay0] using c))
  | .dict _, _, h, c => by simp [PyData.canLay0] at c
theorem RpAll.dp : ∀ (ds : List D) (vs : List V), RpAll K O H vs ds → PyData.canLayAll0 ds = true → DpAll K H vs ds
  | [], _, h, _ => by cases h; exact .nil
  | d :: ds, _, h, c => by
    cases h with
    | cons h1 h2 =>
      simp only [PyData.canLayAll0, Bool.and_eq_true] at c
      exact .cons (Rp.dp d _ h1 c.1) (RpAll.dp ds _ h2 c.2)
end
theorem Pk.dp (h : Pk K O H v d) (c : eqOk d = true) : Dp K H v d := by
  have c' := SeqAt.canLay_of_shaped c
  cases d with
  | list ds =>
    obtain ⟨a, vs, rfl, h1, h3⟩ := h
    exact .lst (SqL.of h1) (RpAll.dp ds _ h3 (by simpa [PyData.canLay0] using c'))
  | _ => exact Rp.dp _ _ h c'
/-- a list or a tuple that is looked at -/
theorem Pk.seq (h : Pk K O H v d) (e : items d = some ds) : ∃ a vs, v = .ref a ∧ RpAll K O H vs ds ∧ ((d = .list ds ∧ H a = some (.lst vs)) ∨ (d = .tuple ds ∧ SqT K H a vs)) := by
  cases d with
  | list xs =>
    obtain ⟨a, vs, rfl, h1, h3⟩ := h
    cases e
    exact ⟨a, vs, rfl, h3, .inl ⟨rfl, h1⟩⟩
  | tuple xs =>
    cases e
    have h' : Rp K O H v (.tuple ds) := h
    cases h' with
    | tup h1 h3 => exact ⟨_, _, rfl, h3, .inr ⟨rfl, h1⟩⟩
  | _ => cases e
end
def FreshV (K : PySem.W.Frag) (O : Addr → Prop) (H H' : Hp) (v : V) (d : D) : Prop := ∀ xs, d = .list xs → ∃ p ws, v = .ref p ∧ H p = none ∧ H' p = some (.lst ws) ∧ RpAll K (fun a => O a ∨ a = p) H' ws xs
theorem fresh_flat {K : PySem.W.Frag} {O : Addr → Prop} {H H' : Hp} {d : D} {v : V} (h : ∀ xs, d ≠ .list xs) : FreshV K O H H' v d := fun xs e => absurd e (h xs)
theorem fresh_fl {K : PySem.W.Frag} {O : Addr → Prop} {H H' : Hp} {d : D} {v : V} (h : flatD d = true) : FreshV K O H H' v d := fresh_flat fun xs e => by rw [e] at h; simp [flatD] at h
theorem fresh_lst {K : PySem.W.Frag} {O : Addr → Prop} {H : Hp} {p : Addr} {vs : List V} {ds : List D} (hp : H p = none) (r : RpAll K O H vs ds) : FreshV K O H (upd H p (.lst vs)) (.ref p) (.list ds) := fun xs e => by
  cases e
  exact ⟨p, vs, rfl, hp, upd_same, (RpAll.avoid hp _ _ r).same (same_upd hp)⟩
/-- what follows an operation -/
abbrev Ret (K : PySem.W.Frag) (O : Addr → Prop) (H : Hp) (d : D) (Q : VK) : Prop := ∀ v H', Same H H' → Rp K O H' v d → FreshV K O H H' v d → Q v H'
theorem Ret.here {K : PySem.W.Frag} {O : Addr → Prop} {H : Hp} {d : D} {Q : VK} {v : V} (q : Ret K O H d Q) (r : Rp K O H v d) (h : ∀ xs, d ≠ .list xs := by intro _ z; cases z) : Q v H := q v H (Same.refl H) r (fresh_flat h)
theorem Ret.lst {K : PySem.W.Frag} {O : Addr → Prop} {H : Hp} {ds : List D} {Q : VK} {vs : List V} {p : Addr} (q : Ret K O H (.list ds) Q) (k : OkO O H) (hp : H p = none) (r : RpAll K O H vs ds) : Q (.ref p) (upd H p (.lst vs)) :=
  q _ _ (same_upd hp) (new_lst k hp r) (fresh_lst hp r)
theorem Ret.tup {K : PySem.W.Frag} {O : Addr → Prop} {H : Hp} {ds : List D} {Q : VK} {vs : List V} {p : Addr} (q : Ret K O H (.tuple ds) Q) (hp : H p = none) (r : RpAll K O H vs ds) : Q (.ref p) (upd H p (.tup vs)) :=
  q _ _ (same_upd hp) (new_tup hp r) (fresh_flat fun _ z => by cases z)
def OpV (X : Cx) (f : Value → Value → Sem Value) (x y z : D) : Prop :=
  ∃ r, OpR X f r ∧ ∀ (O : Addr → Prop) (H : Hp) (v w : V) (Q : VK), OkO O H → Pk X.K O H v x → Pk X.K O H w y → Ret X.K O H z Q → r v w H Q
def Call1 (X : Cx) (f : Value) (x z : D) : Prop :=
  ∃ r, CallR X f r ∧ ∀ (O : Addr → Prop) (H : Hp) (v : V) (Q : VK), OkO O H → Pk X.K O H v x → Ret X.K O H z Q → r [v] H Q
def Call2 (X : Cx) (f : Value) (x y z : D) : Prop :=
  ∃ r, CallR X f r ∧ ∀ (O : Addr → Prop) (H : Hp) (v w : V) (Q : VK), OkO O H → Pk X.K O H v x → Pk X.K O H w y → Ret X.K O H z Q → r [v, w] H Q
section
variable {X : Cx} {x y z : D}
theorem maxSize_line : maxSize ≤ sizeLine := by rw [sizeLine_eq]; decide
theorem sized_of {xs zs : List D} (e : sized xs = some zs) : zs = xs ∧ xs.length ≤ maxSize := by
  unfold sized at e
  split at e
  · cases e; exact ⟨rfl, by assumption⟩
  · cases e
theorem addV (e : addD x y = some z) : OpV X (binaryOp .Add) x y z := by
  unfold addD at e
  split at e
  · cases e
    refine ⟨_, op_add, fun O H v w Q k pv pw q => ?_⟩
    cases (show Rp X.K O H v (.int _) from pv); cases (show Rp X.K O H w (.int _) from pw)
    exact ⟨_, _, rfl, rfl, q.here (.int _)⟩
  · rename_i xs ys
    simp only [Option.bind_eq_bind, Option.bind_eq_some_iff] at e
    obtain ⟨zs, e1, e2⟩ := e
    cases e2
    obtain ⟨rfl, hl⟩ := sized_of e1
    refine ⟨_, op_cat, fun O H v w Q k pv pw q => ?_⟩
    obtain ⟨a, vs, rfl, h1, r1⟩ := pv
    obtain ⟨b, ws, rfl, h2, r2⟩ := pw
    refine ⟨a, b, vs, ws, rfl, rfl, h1, h2, ?_, fun p hp => q.lst k hp (r1.append r2)⟩
    rw [List.length_append] at hl
    rw [r1.length, r2.length]
    exact Nat.le_trans hl maxSize_line
  · rename_i xs ys
    simp only [Option.bind_eq_bind, Option.bind_eq_some_iff] at e
    obtain ⟨zs, e1, e2⟩ := e
    cases e2
    obtain ⟨rfl, hl⟩ := sized_of e1
    refine ⟨_, op_catA, fun O H v w Q k pv pw q => ?_⟩
    obtain ⟨a, vs, rfl, r1, h1 | ⟨_, h1⟩⟩ := Pk.seq pv rfl
    · cases h1.1
    obtain ⟨b, ws, rfl, r2, h2 | ⟨_, h2⟩⟩ := Pk.seq pw rfl
    · cases h2.1
    have ra := r1.append r2
    refine ⟨a, b, vs, ws, rfl, rfl, h1, h2, ?_, fun e => ?_, fun _ e => ?_, fun _ _ p hp => q.tup hp ra⟩
    · rw [List.length_append] at hl
      rw [r1.length, r2.length]
      exact Nat.le_trans hl maxSize_line
    · subst e; exact q.here (.tup h2 (by simpa using ra))
    · subst e; exact q.here (.tup h1 (by simpa using ra))
  · cases e
theorem subV {i j : Int} : OpV X (binaryOp .Sub) (.int i) (.int j) (.int (i - j)) :=
  ⟨_, op_sub, fun O H v w Q k pv pw q => by
    cases (show Rp X.K O H v (.int _) from pv); cases (show Rp X.K O H w (.int _) from pw)
    exact ⟨_, _, rfl, rfl, q.here (.int _)⟩⟩
theorem mulV (e : mulD x y = some z) : OpV X (binaryOp .Mult) x y z := by
  unfold mulD at e
  split at e
  · rename_i i j
    split at e
    · rename_i c
      cases e
      simp only [smallI, bigOk, Bool.or_eq_true, Bool.and_eq_true, decide_eq_true_eq] at c
      rcases c with c | c
      · refine ⟨_, op_mul, fun O H v w Q k pv pw q => ?_⟩
        cases (show Rp X.K O H v (.int _) from pv); cases (show Rp X.K O H w (.int _) from pw)
        exact ⟨_, _, rfl, rfl, c, q.here (.int _)⟩
      refine ⟨_, op_mulW, fun O H v w Q k pv pw q => ?_⟩
      cases (show Rp X.K O H v (.int _) from pv); cases (show Rp X.K O H w (.int _) from pw)
      exact ⟨_, _, rfl, rfl, wide_mul c.1 c.2 (by decide) (by decide) (by decide), q.here (.int _)⟩
    · cases e
  · rename_i xs n
    split at e
    · rename_i c
      cases e
      simp only [Bool.and_eq_true, decide_eq_true_eq] at c
      refine ⟨_, op_rep, fun O H v w Q k pv pw q => ?_⟩
      obtain ⟨a, vs, rfl, h1, r1⟩ := pv
      cases (show Rp X.K O H w (.int _) from pw)
      have m : (maxSize : Int) = 1000000 := rfl
      refine ⟨a, n, vs, rfl, rfl, h1, by omega, by omega, ?_, fun p hp => q.lst k hp (r1.rep _)⟩
      rw [r1.length]
      exact Nat.le_trans c.1.1 maxSize_line
    · cases e
  · rename_i xs n
    split at e
    · rename_i c
      cases e
      simp only [Bool.and_eq_true, decide_eq_true_eq] at c
      refine ⟨_, op_repT, fun O H v w Q k pv pw q => ?_⟩
      obtain ⟨a, vs, rfl, r1, h1 | ⟨_, h1⟩⟩ := Pk.seq pv rfl
      · cases h1.1
      cases (show Rp X.K O H w (.int _) from pw)
      have hl := r1.length
      refine ⟨a, n, vs, rfl, rfl, h1, ?_, c.1.2, c.1.1.2, ?_, fun p hp => q.tup hp (r1.rep _)⟩
      · intro z; subst z; simp at hl; omega
      · rw [hl]; exact c.1.1.1
    · cases e
  · cases e
theorem fdivV (e : fdivD x y = some z) : OpV X (binaryOp .FloorDiv) x y z := by
  unfold fdivD at e
  split at e
  · split at e
    · rename_i c
      cases e
      refine ⟨_, op_fdiv, fun O H v w Q k pv pw q => ?_⟩
      cases (show Rp X.K O H v (.int _) from pv); cases (show Rp X.K O H w (.int _) from pw)
      exact ⟨_, _, rfl, rfl, c, q.here (.int _)⟩
    · cases e
  · cases e
theorem modV (e : modD x y = some z) : OpV X (binaryOp .Mod) x y z := by
  unfold modD at e
  split at e
  · split at e
    · rename_i c
      cases e
      refine ⟨_, op_mod, fun O H v w Q k pv pw q => ?_⟩
      cases (show Rp X.K O H v (.int _) from pv); cases (show Rp X.K O H w (.int _) from pw)
      exact ⟨_, _, rfl, rfl, c, q.here (.int _)⟩
    · cases e
  · cases e
end
end Z
/-! comparisons and built-ins, by values -/
namespace Z
open PySem L2 PySem.Spec PyProof.Rows
section
variable {X : Cx} {x y z : D} {k : Nat}
theorem isT_alike : ∀ (t : Ty) (a b : D), isT t a = true → isT t b = true → PySem.W.alike a b = true := by
  intro t
  induction t with
  | int => intro a b ha hb; cases a <;> cases b <;> simp_all [isT, PySem.W.alike]
  | str => intro a b ha hb; cases a <;> cases b <;> simp_all [isT, PySem.W.alike]
  | seq t ih =>
    intro a b ha hb
    cases a <;> cases b <;> simp only [isT, Bool.false_eq_true] at ha hb
    rename_i xs ys
    simp only [PySem.W.alike]
    exact all xs ys ih ha hb
  | pair s t ih1 ih2 =>
    intro a b ha hb
    match a, b, ha, hb with
    | .tuple [p, q], .tuple [p', q'], ha, hb =>
      simp only [isT, Bool.and_eq_true] at ha hb
      simp [PySem.W.alike, PySem.W.alikeAll, ih1 _ _ ha.1 hb.1, ih2 _ _ ha.2 hb.2]
  | rows t ih =>
    intro a b ha hb
    cases a <;> cases b <;> simp only [isT, Bool.false_eq_true] at ha hb
    rename_i xs ys
    simp only [PySem.W.alike]
    exact all xs ys ih ha hb
where all {t : Ty} : ∀ (xs ys : List D), (∀ a b, isT t a = true → isT t b = true → PySem.W.alike a b = true) → xs.all (isT t) = true → ys.all (isT t) = true → PySem.W.alikeAll xs ys = true
  | [], _, _, _, _ => by simp [PySem.W.alikeAll]
  | _ :: _, [], _, _, _ => by simp [PySem.W.alikeAll]
  | x :: xs, y :: ys, f, hx, hy => by
    simp only [List.all_cons, Bool.and_eq_true] at hx hy
    simp [PySem.W.alikeAll, f _ _ hx.1 hy.1, all xs ys f hx.2 hy.2]
def isTAll (t : Ty) (xs : List D) : Bool := xs.all (isT t)
def noStr : Ty → Bool
  | .int => true
  | .str => false
  | .seq t => noStr t
  | .pair a b => noStr a && noStr b
  | .rows t => noStr t
theorem cmpOp_ints {op : CmpOp} {g : Int → Int → Bool} {i j : Int} (h : OpR X (compareOp op) (rI0 fun i j => .bl (g i j))) : OpV X (compareOp op) (.int i) (.int j) (.bool (g i j)) :=
  ⟨_, h, fun O H v w Q k pv pw q => by
    cases (show Rp X.K O H v (.int _) from pv); cases (show Rp X.K O H w (.int _) from pw)
    exact ⟨_, _, rfl, rfl, q.here (.bl _)⟩⟩
/-- a comparison of data by what they read as -/
theorem cmpOp_reads {op : CmpOp} {x y : D} {c : Bool} (hx : eqOk x = true) (hy : eqOk y = true)
    (h : ∀ (s : Shared) (u w' : Value) (as bs : List Addr) (Q : Value → Shared → Prop), Reads s.heap u x as → Reads s.heap w' y bs → Q (.bool c) s → wpAny (model X.prog X.w) X.A (compareOp op u w') Q X.xe s) : OpV X (compareOp op) x y (.bool c) := by
  refine ⟨fun v w H Q => Dp X.K H v x ∧ Dp X.K H w y ∧ Q (.bl c) H, fun pins s σ H v w u u' Q I rv rw' hh => ?_, fun O H v w Q k pv pw q => ⟨pv.dp hx, pw.dp hy, q.here (.bl _)⟩⟩
  obtain ⟨as, r1⟩ := Dp.reads I x v u hh.1 rv
  obtain ⟨bs, r2⟩ := Dp.reads I y w u' hh.2.1 rw'
  exact h s u u' as bs _ r1 r2 ⟨.bl c, H, I, rfl, hh.2.2⟩
theorem isV {op : CmpOp} {g : Bool → Bool → Bool} {b c : Bool} (h : OpR X (compareOp op) (fun x y H Q => ∃ a b, x = .bl a ∧ y = .bl b ∧ Q (.bl (g a b)) H)) : OpV X (compareOp op) (.bool b) (.bool c) (.bool (g b c)) :=
  ⟨_, h, fun O H v w Q k pv pw q => by
    cases (show Rp X.K O H v (.bool _) from pv); cases (show Rp X.K O H w (.bool _) from pw)
    exact ⟨_, _, rfl, rfl, q.here (.bl _)⟩⟩
theorem noneV {O : Addr → Prop} {H : Hp} {v : V} {x : D} (h : Pk X.K O H v x) : decide (v = .non) = (match x with | .none => true | _ => false) := by
  cases x with
  | list ds => obtain ⟨a, vs, rfl, _⟩ := h; rfl
  | none => cases (show Rp X.K O H v .none from h); rfl
  | bool b => cases (show Rp X.K O H v (.bool b) from h); rfl
  | int b => cases (show Rp X.K O H v (.int b) from h); rfl
  | str b => cases (show Rp X.K O H v (.str b) from h); rfl
  | tuple b => cases (show Rp X.K O H v (.tuple b) from h); rfl
  | dict b => cases (show Rp X.K O H v (.dict b) from h); rfl
def opOf : Op → CmpOp
  | .eq => .Eq | .ne => .NotEq | .lt => .Lt | .le => .LtE | .gt => .Gt | .ge => .GtE | .isIn => .In | .notIn => .NotIn | .is_ => .Is | .isnot => .IsNot
theorem depth_room (hr : Room k X.A) {x y : D} (h : eqOk x = true) : X.A.units + min x.depth y.depth < cLine := by
  have h1 := SeqAt.depth_of_shaped h
  have h2 := hr.units
  have := Nat.min_le_left x.depth y.depth
  omega
theorem in_room (hr : Room k X.A) {xs : List D} {y : D} (h : eqOk y = true) : X.A.units + 1 + min (PyData.depthAll xs) y.depth < cLine := by
  have h1 := SeqAt.depth_of_shaped h
  have h2 := hr.un
  have := Nat.min_le_right (PyData.depthAll xs) y.depth
  omega
theorem lay_items {xs : List D} (h : eqOk (.list xs) = true ∨ eqOk (.tuple xs) = true) : PyData.canLayAll0 xs = true := by
  rcases h with h | h <;> (have := SeqAt.canLay_of_shaped h; simpa [PyData.canLay0] using this)
theorem cmpV (hr : Room k X.A) {o : Op} {x y : D} {c : Bool} (e : cmpD o x y = some c) : OpV X (compareOp (opOf o)) x y (.bool c) := by
  have hu := hr.units
  cases o with
  | eq =>
    simp only [cmpD] at e
    split at e
    · cases e
      exact ⟨_, op_eq, fun O H v w Q k pv pw q => by
        cases (show Rp X.K O H v (.str _) from pv); cases (show Rp X.K O H w (.str _) from pw)
        exact ⟨rfl, by rw [dec_str]; exact q.here (.bl _)⟩⟩
    split at e
    · rename_i h; cases e
      simp only [Bool.and_eq_true] at h
      exact cmpOp_reads h.1 h.2 fun s u w' as bs Q r1 r2 q => SeqAt.compareEq_shaped r1 r2 h.1 h.2 hu q
    · cases e
  | ne =>
    simp only [cmpD] at e
    split at e
    · cases e
      exact ⟨_, op_ne, fun O H v w Q k pv pw q => by
        cases (show Rp X.K O H v (.str _) from pv); cases (show Rp X.K O H w (.str _) from pw)
        exact ⟨rfl, by rw [dec_str]; exact q.here (.bl _)⟩⟩
    split at e
    · rename_i h; cases e
      simp only [Bool.and_eq_true] at h
      exact cmpOp_reads h.1 h.2 fun s u w' as bs Q r1 r2 q => SeqAt.compareNe_shaped r1 r2 h.1 h.2 hu q
    · cases e
  | lt =>
    simp only [cmpD] at e
    split at e
    · cases e; exact cmpOp_ints (X := X) op_lt
    · split at e
      · rename_i h; cases e
        simp only [ordOk, Bool.and_eq_true] at h
        exact cmpOp_reads h.1.1.1 h.1.1.2 fun s u w' as bs Q r1 r2 q => PySem.W.lt_data r1 r2 h.1.2 (by intro z; subst z; simp at h) (depth_room hr h.1.1.1) q
      · cases e
  | gt =>
    simp only [cmpD] at e
    split at e
    · cases e; exact cmpOp_ints (X := X) (g := fun i j => decide (j < i)) op_gt
    · split at e
      · rename_i h; cases e
        simp only [ordOk, Bool.and_eq_true] at h
        exact cmpOp_reads h.1.1.1 h.1.1.2 fun s u w' as bs Q r1 r2 q => PySem.W.gt_data r1 r2 h.1.2 (by intro z; subst z; simp at h) (depth_room hr h.1.1.1) q
      · cases e
  | le =>
    simp only [cmpD] at e
    split at e
    · cases e; exact cmpOp_ints (X := X) op_le
    · cases e
  | ge =>
    simp only [cmpD] at e
    split at e
    · cases e; exact cmpOp_ints (X := X) (g := fun i j => decide (j ≤ i)) op_ge
    · cases e
  | isIn =>
    simp only [cmpD] at e
    split at e
    · split at e
      · rename_i h; cases e
        simp only [Bool.and_eq_true] at h
        exact cmpOp_reads h.1 h.2 fun s u w' as bs Q r1 r2 q => SeqAt.in_list_reads r2 r1 (lay_items (.inl h.2)) (SeqAt.canLay_of_shaped h.1) (in_room hr h.1) q
      · cases e
    · split at e
      · rename_i h; cases e
        simp only [Bool.and_eq_true] at h
        exact cmpOp_reads h.1 h.2 fun s u w' as bs Q r1 r2 q => SeqAt.in_tuple_reads r2 r1 (lay_items (.inr h.2)) (SeqAt.canLay_of_shaped h.1) (in_room hr h.1) q
      · cases e
    · cases e
  | notIn =>
    simp only [cmpD] at e
    split at e
    · split at e
      · rename_i h; cases e
        simp only [Bool.and_eq_true] at h
        exact cmpOp_reads h.1 h.2 fun s u w' as bs Q r1 r2 q => SeqAt.notIn_list_reads r2 r1 (lay_items (.inl h.2)) (SeqAt.canLay_of_shaped h.1) (in_room hr h.1) q
      · cases e
    · split at e
      · rename_i h; cases e
        simp only [Bool.and_eq_true] at h
        exact cmpOp_reads h.1 h.2 fun s u w' as bs Q r1 r2 q => SeqAt.notIn_tuple_reads r2 r1 (lay_items (.inr h.2)) (SeqAt.canLay_of_shaped h.1) (in_room hr h.1) q
      · cases e
    · cases e
  | is_ =>
    simp only [cmpD] at e
    split at e
    · cases e
      exact ⟨_, op_isN, fun O H v w Q k pv pw q => by
        cases (show Rp X.K O H w .none from pw)
        refine ⟨rfl, ?_⟩
        rw [noneV pv]
        cases x <;> exact q.here (.bl _)⟩
    · split at e
      · rename_i b _ c'; cases e
        have := isV (X := X) (g := fun a b => decide (a = b)) (b := c') (c := b) op_isBl
        rw [← Bool.beq_eq_decide_eq] at this
        exact this
      · cases e
    · cases e
  | isnot =>
    simp only [cmpD] at e
    split at e
    · cases e
      exact ⟨_, op_notN, fun O H v w Q k pv pw q => by
        cases (show Rp X.K O H w .none from pw)
        refine ⟨rfl, ?_⟩
        rw [noneV pv]
        cases x <;> exact q.here (.bl _)⟩
    · split at e
      · rename_i b _ c'; cases e
        have := isV (X := X) (g := fun a b => !decide (a = b)) (b := c') (c := b) op_notBl
        rw [← Bool.beq_eq_decide_eq] at this
        exact this
      · cases e
    · cases e
end
end Z
namespace Z
open PySem L2 PySem.Spec PyProof.Rows
section
variable {X : Cx} {k : Nat}
theorem paired_nil {α β : Type} {F : α → β → Prop} {l : List β} (h : Paired F [] l) : l = [] := by cases h; rfl
theorem reads_d0 {pins : List (Addr × Obj)} {σ : L2.St} {H : Hp} {s : Shared} {a : Addr} (I : Inv X pins σ H s) (h : H a = some (.dK [])) : Reads s.heap (.ref a) (.dict []) [a] ∧ a ≠ sysModules := by
  obtain ⟨_, hs, vs, kv, o, es, ep, e1, ⟨c, _⟩, e2, _, e4, _⟩ := I.hok a _ h
  have hv := paired_nil kv
  subst hv
  have he : es.toList = [] := by
    have e4' : Pairs (mixKind X.prog X.w) es.toList [] := e4
    generalize es.toList = l at e4'
    cases e4'
    rfl
  refine ⟨?_, fun z => ?_⟩
  · have := Reads.dict (h := s.heap) (kvs := []) (as := []) (bs := []) e1 c e2 (by rw [he]; exact .nil) (by rw [he]; exact .nil)
    simpa using this
  · subst z
    exact absurd hs (by decide)
/-- repr -/
theorem reprV (hr : Room k X.A) (hg : X.A.guards = some []) {x : D} (h : reprOk x = true) : Call1 X (.builtin "repr") x (.str x.shown) := by
  simp only [reprOk, Bool.and_eq_true, decide_eq_true_eq, Bool.or_eq_true, Bool.not_eq_true'] at h
  obtain ⟨⟨⟨h1, h2⟩, h3⟩, h4⟩ := h
  have hu := hr.un
  refine ⟨fun vs H Q => ∃ v O, vs = [v] ∧ Pk X.K O H v x ∧ Q (.str x.shown) H, fun pins s σ H vs us Q I r hh => ?_, fun O H v Q k p q => ⟨v, O, rfl, p, q.here (.str _)⟩⟩
  obtain ⟨v, O, rfl, p, q⟩ := hh
  obtain ⟨u, rfl, ru⟩ := vals1 r
  have byRef : ∀ {a : Addr} {as : List Addr}, u = .ref a → Reads s.heap (.ref a) x as → (x.hasDict = true → sysModules ∉ as) → wpAny (model X.prog X.w) X.A (call (.builtin "repr") [u]) (EP X pins σ Q) X.xe s := fun {a as} e rd hd => by
    subst e
    exact repr_of_reads' rd h1 hd hg (by omega) (fun _ _ e => e) (fun h' u tk hk => ⟨.str _, H, I.kept hk, ⟨_, rfl⟩, q⟩) h2
  have dpRef : (x.hasDict = false → ∀ {a : Addr}, u = .ref a → Dp X.K H v x → wpAny (model X.prog X.w) X.A (call (.builtin "repr") [u]) (EP X pins σ Q) X.xe s) := fun hd {a} e dp => by
    obtain ⟨as, rd⟩ := Dp.reads I x v u dp ru
    subst e
    exact byRef rfl rd (by rw [hd]; intro z; cases z)
  cases x with
  | none =>
    cases (show Rp X.K O H v .none from p)
    cases ru
    rw [show (PyData.none).shown = ("None" : Str) from PyData.shown_none] at q
    exact PySem.P.repr_of_none ⟨.str _, H, I.tok _, ⟨_, rfl⟩, q⟩
  | bool b =>
    cases (show Rp X.K O H v (.bool b) from p)
    cases ru
    rw [PyData.shown_bool] at q
    refine PySem.P.repr_of_bool ⟨.str _, H, I.tok _, ⟨_, rfl⟩, ?_⟩
    cases b <;> exact q
  | int i =>
    cases (show Rp X.K O H v (.int i) from p)
    obtain ⟨t, rfl⟩ := ru
    rw [PyData.shown_int] at q
    exact PySem.P.repr_of_int (by simpa [PyData.showable] using h1) ⟨.str _, H, I.tok _, ⟨_, rfl⟩, q⟩
  | str y =>
    cases (show Rp X.K O H v (.str y) from p)
    obtain ⟨t, rfl⟩ := ru
    rw [PyData.shown_str] at q h2
    exact PySem.P.repr_of_str ⟨.str _, H, I.tok _, ⟨_, rfl⟩, q⟩ h2
  | list ds =>
    obtain ⟨a, vs, rfl, e1, r1⟩ := p
    cases ru
    have hd : (PyData.list ds).hasDict = false := by rcases h4 with h4 | h4; exact h4; cases h4
    obtain ⟨as, rd⟩ := readsR I (.list ds) (.ref a) (.ref a) (.lst (O := fun _ => False) e1 (fun z => z) (RpAll.less (fun _ z => z.elim) _ _ r1)) rfl hd
    exact byRef rfl rd (by rw [hd]; intro z; cases z)
  | tuple ds =>
    have p' : Rp X.K O H v (.tuple ds) := p
    have hd : (PyData.tuple ds).hasDict = false := by rcases h4 with h4 | h4; exact h4; cases h4
    obtain ⟨as, rd⟩ := readsR I (.tuple ds) v u p' ru hd
    cases p' with
    | tup e1 r1 =>
      cases ru
      exact byRef rfl rd (by rw [hd]; intro z; cases z)
  | dict kvs =>
    have p' : Rp X.K O H v (.dict kvs) := p
    cases p' with
    | dct e1 =>
      cases ru
      obtain ⟨rd, ne⟩ := reads_d0 I e1
      exact byRef rfl rd (fun _ z => by simp at z; exact ne z.symm)
where
  readsR {pins : List (Addr × Obj)} {σ : L2.St} {H : Hp} {s : Shared} {O : Addr → Prop} (I : Inv X pins σ H s) : ∀ (d : D) (v : V) (u : Value), Rp X.K O H v d → VRel v u → d.hasDict = false → ∃ as, Reads s.heap u d as
    | .none, _, _, h, r, _ => by cases h; cases r; exact ⟨_, .none⟩
    | .bool b, _, _, h, r, _ => by cases h; cases r; exact ⟨_, .bool b⟩
    | .int i, _, _, h, r, _ => by cases h; obtain ⟨t, rfl⟩ := r; exact ⟨_, .int i t⟩
    | .str x, _, _, h, r, _ => by cases h; obtain ⟨t, rfl⟩ := r; exact ⟨_, .str x t⟩
    | .list ds, _, _, h, r, c => by
      cases h with
      | lst h1 h2 h3 =>
        cases r
        obtain ⟨its, rv, ⟨o, n, ho, hc, _, hd⟩, _⟩ := I.list (SqL.of h1)
        obtain ⟨as, q⟩ := readsRA I ds _ its h3 rv (by simpa [PyData.hasDict] using c)
        exact ⟨_, .list ho hc hd q⟩
    | .tuple ds, _, _, h, r, c => by
      cases h with
      | tup h1 h3 =>
        cases r
        obtain ⟨its, rv, ⟨o, ho, hc, n, hd⟩, _⟩ := I.tuple h1
        obtain ⟨as, q⟩ := readsRA I ds _ its h3 rv (by simpa [PyData.hasDict] using c)
        exact ⟨_, .tuple ho hc hd q⟩
    | .dict _, _, _, h, _, c => by simp [PyData.hasDict] at c
  readsRA {pins : List (Addr × Obj)} {σ : L2.St} {H : Hp} {s : Shared} {O : Addr → Prop} (I : Inv X pins σ H s) : ∀ (ds : List D) (vs : List V) (us : List Value), RpAll X.K O H vs ds → Vals vs us → PyData.hasDictAll ds = false → ∃ as, ReadsAll s.heap us ds as
    | [], _, _, h, r, _ => by cases h; cases r; exact ⟨_, .nil⟩
    | d :: ds, _, _, h, r, c => by
      simp only [PyData.hasDictAll, Bool.or_eq_false_iff] at c
      cases h with
      | cons h1 h2 =>
        cases r with
        | cons r1 r2 =>
          obtain ⟨as, q1⟩ := readsR I d _ _ h1 r1 c.1
          obtain ⟨bs, q2⟩ := readsRA I ds _ _ h2 r2 c.2
          exact ⟨_, .cons q1 q2⟩
theorem lenV {x : D} {xs : List D} (e : items x = some xs) : Call1 X (.builtin "len") x (.int xs.length) :=
  ⟨_, call_len, fun O H v Q k p q => by
    obtain ⟨a, vs, rfl, r, h | h⟩ := p.seq e
    · exact ⟨_, vs.length, rfl, .inl ⟨vs, SqL.of h.2, rfl⟩, by rw [r.length]; exact q.here (.int _)⟩
    · exact ⟨_, vs.length, rfl, .inr ⟨vs, h.2, rfl⟩, by rw [r.length]; exact q.here (.int _)⟩⟩
theorem lst_of {x : D} {xs : List D} (e : lstOf x = some xs) : x = .list xs := by
  cases x <;> simp [lstOf] at e
  subst e; rfl
theorem sumV (hc : X.calm = true) {x : D} {xs : List D} {ns : List Int} (e : lstOf x = some xs) (e2 : allInt xs = some ns) : Call1 X (.builtin "sum") x (.int ns.sum) :=
  ⟨_, cr_sum hc, fun O H v Q k p q => by
    rw [lst_of e] at p
    obtain ⟨a, vs, rfl, h, r⟩ := p
    rw [allInt_map e2] at r
    have := RpAll.of_ints r
    subst this
    exact ⟨a, ns, rfl, SqL.of h, q.here (.int _)⟩⟩
theorem allV (hc : X.calm = true) {x : D} {xs : List D} {bs : List Bool} (e : lstOf x = some xs) (e2 : allBool xs = some bs) : Call1 X (.builtin "all") x (.bool (bs.all id)) :=
  ⟨_, cr_all hc, fun O H v Q k p q => by
    rw [lst_of e] at p
    obtain ⟨a, vs, rfl, h, r⟩ := p
    rw [allBool_map e2] at r
    have := RpAll.of_bools r
    subst this
    exact ⟨a, bs, rfl, SqL.of h, q.here (.bl _)⟩⟩
theorem anyV (hc : X.calm = true) {x : D} {xs : List D} {bs : List Bool} (e : lstOf x = some xs) (e2 : allBool xs = some bs) : Call1 X (.builtin "any") x (.bool (bs.any id)) :=
  ⟨_, cr_any hc, fun O H v Q k p q => by
    rw [lst_of e] at p
    obtain ⟨a, vs, rfl, h, r⟩ := p
    rw [allBool_map e2] at r
    have := RpAll.of_bools r
    subst this
    exact ⟨a, bs, rfl, SqL.of h, q.here (.bl _)⟩⟩
theorem listV {x : D} {xs : List D} (e : items x = some xs) : Call1 X (.type "list") x (.list xs) :=
  ⟨_, call_list_of, fun O H v Q k p q => by
    obtain ⟨a, vs, rfl, r, h | h⟩ := p.seq e
    · exact ⟨a, vs, rfl, .inl (SqL.of h.2), fun l hl => q.lst k hl r⟩
    · exact ⟨a, vs, rfl, .inr h.2, fun l hl => q.lst k hl r⟩⟩
theorem tupleV {x : D} {xs : List D} (e : items x = some xs) : Call1 X (.type "tuple") x (.tuple xs) :=
  ⟨_, call_tuple_of, fun O H v Q k p q => by
    obtain ⟨a, vs, rfl, r, h | h⟩ := p.seq e
    · exact ⟨a, vs, rfl, .inl ⟨SqL.of h.2, fun l hl => q.tup hl r⟩⟩
    · exact ⟨a, vs, rfl, .inr ⟨h.2, q.here (.tup h.2 r)⟩⟩⟩
theorem intV {i : Int} : Call1 X (.type "int") (.int i) (.int i) :=
  ⟨_, call_int1, fun O H v Q k p q => by
    cases (show Rp X.K O H v (.int _) from p)
    exact .inl ⟨_, rfl, q.here (.int _)⟩⟩
theorem intBV {b : Bool} : Call1 X (.type "int") (.bool b) (.int (if b then 1 else 0)) :=
  ⟨_, call_int1, fun O H v Q k p q => by
    cases (show Rp X.K O H v (.bool _) from p)
    exact .inr ⟨_, rfl, q.here (.int _)⟩⟩
theorem absV {i : Int} : Call1 X (.builtin "abs") (.int i) (.int (if i < 0 then -i else i)) :=
  ⟨_, call_abs, fun O H v Q k p q => by
    cases (show Rp X.K O H v (.int _) from p)
    exact ⟨_, rfl, q.here (.int _)⟩⟩
theorem min2V (hc : X.calm = true) {i j : Int} : Call2 X (.builtin "min") (.int i) (.int j) (.int (if j < i then j else i)) :=
  ⟨_, call_min2 hc, fun O H v w Q k p p' q => by
    cases (show Rp X.K O H v (.int _) from p); cases (show Rp X.K O H w (.int _) from p')
    exact ⟨_, _, rfl, q.here (.int _)⟩⟩
theorem max2V (hc : X.calm = true) {i j : Int} : Call2 X (.builtin "max") (.int i) (.int j) (.int (if j > i then j else i)) :=
  ⟨_, call_max2 hc, fun O H v w Q k p p' q => by
    cases (show Rp X.K O H v (.int _) from p); cases (show Rp X.K O H w (.int _) from p')
    exact ⟨_, _, rfl, q.here (.int _)⟩⟩
theorem negV {i : Int} : ∃ r, UnR X (unaryOp .USub) r ∧ ∀ (O : Addr → Prop) (H : Hp) (v : V) (Q : VK), Pk X.K O H v (.int i) → Ret X.K O H (.int (-i)) Q → r v H Q :=
  ⟨_, un_neg, fun O H v Q p q => by
    cases (show Rp X.K O H v (.int _) from p)
    exact ⟨_, rfl, q.here (.int _)⟩⟩
/-! isinstance -/
def tyOf : D → String
  | .none => "NoneType"
  | .bool _ => "bool"
  | .int _ => "int"
  | .str _ => "str"
  | .list _ => "list"
  | .tuple _ => "tuple"
  | .dict _ => "dict"
theorem tyX {O : Addr → Prop} {H : Hp} {v : V} {x : D} (p : Pk X.K O H v x) : TyX X.K H v (.type (tyOf x)) := by
  cases x with
  | none => cases (show Rp X.K O H v .none from p); exact .base .non
  | bool b => cases (show Rp X.K O H v (.bool b) from p); exact .base (.bl _)
  | int b => cases (show Rp X.K O H v (.int b) from p); exact .base (.int _)
  | str b => cases (show Rp X.K O H v (.str b) from p); exact .base (.str _)
  | list ds => obtain ⟨a, vs, rfl, h, _⟩ := p; exact .base (.lst h)
  | tuple ds =>
    cases (show Rp X.K O H v (.tuple ds) from p) with
    | tup h _ =>
      rcases h with (h | ⟨o, h⟩) | ⟨o, _, _, h, c, _⟩
      · exact .base (.tup h)
      · exact .fTuple h
      · exact .kTuple h c
  | dict b =>
    cases (show Rp X.K O H v (.dict b) from p) with
    | dct h => exact .base (.dK h)
def kdName : Kd → String
  | .int => "int" | .bool => "bool" | .str => "str" | .tuple => "tuple" | .list => "list" | .seq => ""
def kdT (k : Kd) (n : String) : Bool := n == kdName k || (k == .int && n == "bool")
theorem kitT : ∀ n ∈ ["NoneType", "bool", "int", "str", "list", "tuple", "dict"], ∀ k ∈ [Kd.int, .bool, .str, .tuple, .list], kitB n (kdName k) = some (kdT k n) := by decide +kernel
theorem kit1 (x : D) (kd : Kd) (h : kd ≠ .seq) : kitB (tyOf x) (kdName kd) = some (kdOf kd x) := by
  have e : kdOf kd x = kdT kd (tyOf x) := by cases x <;> cases kd <;> first | exact absurd rfl h | rfl
  rw [e]
  refine kitT _ ?_ _ ?_
  · cases x <;> simp [tyOf]
  · cases kd <;> first | exact absurd rfl h | simp
theorem isiV {x : D} {kd : Kd} (h : kd ≠ .seq) : ∃ r, CallR X (.builtin "isinstance") r ∧ ∀ (O : Addr → Prop) (H : Hp) (v : V) (Q : VK), Pk X.K O H v x → Ret X.K O H (.bool (kdOf kd x)) Q → r [v, .ty (kdName kd)] H Q :=
  ⟨_, call_isi, fun O H v Q p q => ⟨v, _, _, _, _, rfl, .ty _, tyX p, kit_ty (kit1 x kd h), q.here (.bl _)⟩⟩
theorem kitL (x : D) : PySem.W.kitAny X.K (.type (tyOf x)) [.type "list", .type "tuple"] = some (kdOf .seq x) ∧ PySem.W.kitAny X.K (.type (tyOf x)) [.type "tuple", .type "list"] = some (kdOf .seq x) := by
  have e1 : PySem.W.kitOne X.K (.type (tyOf x)) (.type "list") = some (kdOf .list x) := kit_ty (kit1 x .list (by decide))
  have e2 : PySem.W.kitOne X.K (.type (tyOf x)) (.type "tuple") = some (kdOf .tuple x) := kit_ty (kit1 x .tuple (by decide))
  constructor
  · unfold PySem.W.kitAny; rw [e1]
    cases x <;> first | rfl | (simp only [kdOf]; unfold PySem.W.kitAny; rw [e2]; first | rfl | (simp only [kdOf]; unfold PySem.W.kitAny; rfl))
  · unfold PySem.W.kitAny; rw [e2]
    cases x <;> first | rfl | (simp only [kdOf]; unfold PySem.W.kitAny; rw [e1]; first | rfl | (simp only [kdOf]; unfold PySem.W.kitAny; rfl))
theorem isiLV {x : D} (fl : Bool) : ∃ r, CallR X (.builtin "isinstance") r ∧ ∀ (O : Addr → Prop) (H : Hp) (v : V) (tp : Addr) (Q : VK), H tp = some (.tup (if fl then [.ty "list", .ty "tuple"] else [.ty "tuple", .ty "list"])) → Pk X.K O H v x → Ret X.K O H (.bool (kdOf .seq x)) Q → r [v, .ref tp] H Q :=
  ⟨_, call_isiT, fun O H v tp Q ht p q => by
    cases fl
    · exact ⟨v, tp, _, _, [.type "tuple", .type "list"], _, rfl, ht, .cons (.ty _) (.cons (.ty _) .nil), tyX p, (kitL x).2, q.here (.bl _)⟩
    · exact ⟨v, tp, _, _, [.type "list", .type "tuple"], _, rfl, ht, .cons (.ty _) (.cons (.ty _) .nil), tyX p, (kitL x).1, q.here (.bl _)⟩⟩
end
end Z
/-! a syntax tree is this expression, this statement -/
namespace Z
open PySem L2
def visB (sc : Scope) (x : Str) : Bool := match sc.names.lookup x with
  | some .local | some .cell | some .free => true
  | _ => false
def locB (sc : Scope) (x : Str) : Bool := match sc.names.lookup x with
  | some .local | some .cell => true
  | _ => false
def glB (sc : Scope) (x : Str) : Bool := match sc.names.lookup x with
  | some .globalImplicit => true
  | _ => false
def nameOk (x : Str) : Bool := x != "__debug__" && x != "__classdict__" && x != "__name__"
def bltNames : List Str := ["len", "sum", "all", "any", "sorted", "set", "list", "tuple", "int", "abs", "repr", "min", "max", "isinstance", "range", "zip", "enumerate", "divmod", "bool", "str"]
/-- the built-in of this name -/
def isB (sc : Scope) (f : Str) : Expr → Bool
  | .Name x _ => x == f && glB sc x
  | _ => false
def opIs : Op → CmpOp → Bool
  | .eq, .Eq | .ne, .NotEq | .lt, .Lt | .le, .LtE | .gt, .Gt | .ge, .GtE | .isIn, .In | .notIn, .NotIn | .is_, .Is | .isnot, .IsNot => true
  | _, _ => false
def isNm (N : List Str) (sc : Scope) (i : Nat) : Expr → Bool
  | .Name x _ => N[i]? == some x && visB sc x && nameOk x
  | _ => false
def isC (i : Int) : Expr → Bool
  | .Constant (.int j) _ _ => i == j
  | _ => false
def isTy (sc : Scope) (t : Str) : Expr → Bool
  | .Name x _ => x == t && glB sc x
  | _ => false
def kdStr : Kd → Str
  | .int => "int" | .bool => "bool" | .str => "str" | .tuple => "tuple" | .list => "list" | .seq => "list"
def chkKw : List Str → List Keyword → Bool
  | [], [] => true
  | k :: ks, ⟨some n, _, _⟩ :: kws => k == n && chkKw ks kws
  | _, _ => false
def kwVals : List Keyword → List Expr
  | [] => []
  | ⟨_, v, _⟩ :: kws => v :: kwVals kws
section
variable (N : List Str)
mutual
def chkPt : Pt → Scope → Expr → Bool
  | .v i, sc, .Name x _ => N[i]? == some x && locB sc x
  | .t ps, sc, .Tuple es _ _ => chkPts ps sc es
  | _, _, _ => false
def chkPts : Pts → Scope → List Expr → Bool
  | .nil, _, [] => true
  | .cons p ps, sc, e :: es => chkPt p sc e && chkPts ps sc es
  | _, _, _ => false
end
def ptSlots : Pt → List Nat
  | .v i => [i]
  | .t ps => ptsSlots ps
where ptsSlots : Pts → List Nat
  | .nil => []
  | .cons p ps => ptSlots p ++ ptsSlots ps
def isTg : It → Expr → Bool
  | .zip _ _, .Tuple _ _ _ => true
  | .enum _, .Tuple _ _ _ => true
  | .zip _ _, _ => false
  | .enum _, _ => false
  | _, _ => true
mutual
def chkE : E → Scope → Expr → Bool
  | .var i, sc, e => isNm N sc i e
  | .non, _, .Constant .none _ _ => true
  | .bl b, _, .Constant (.bool c) _ _ => b == c
  | .int i, _, .Constant (.int j) _ _ => i == j
  | .str x, _, .Constant (.str y) _ _ => x == y
  | .glob x, sc, .Name y _ => x == y && glB sc y && nameOk y
  | .tup es, sc, .Tuple xs _ _ => decide (xs.length ≤ 1000) && chkEs es sc xs
  | .lst es, sc, .List xs _ => decide (xs.length ≤ 1000) && chkEs es sc xs
  | .dnil, _, .Dict [] [] _ => true
  | .add a b, sc, .BinOp x .Add y _ => chkE a sc x && chkE b sc y
  | .sub a b, sc, .BinOp x .Sub y _ => chkE a sc x && chkE b sc y
  | .mul a b, sc, .BinOp x .Mult y _ => chkE a sc x && chkE b sc y
  | .fdiv a b, sc, .BinOp x .FloorDiv y _ => chkE a sc x && chkE b sc y
  | .mod a b, sc, .BinOp x .Mod y _ => chkE a sc x && chkE b sc y
  | .pow a b, _, .BinOp x .Pow y _ => isC a x && isC b y
  | .neg a, sc, .UnaryOp .USub x _ => chkE a sc x
  | .cmp o a b, sc, .Compare x [p] [y] _ => opIs o p && chkE a sc x && chkE b sc y
  | .cmp2 o o2 a b c, sc, .Compare x [p, p2] [y, z] _ => opIs o p && opIs o2 p2 && chkE a sc x && chkE b sc y && chkE c sc z
  | .all_ es, sc, .BoolOp .And xs _ => chkEs es sc xs
  | .any_ es, sc, .BoolOp .Or xs _ => chkEs es sc xs
  | .not a, sc, .UnaryOp .Not x _ => chkE a sc x
  | .ite c a b, sc, .IfExp x y z _ => chkE c sc x && chkE a sc y && chkE b sc z
  | .ix a i, sc, .Subscript x y _ => chkE a sc x && chkE i sc y
  | .sl a lo hi, sc, .Subscript x (.Slice l h none _) _ => chkE a sc x && chkO lo sc l && chkO hi sc h
--   | .rev a, sc, .Subscript x (.Slice none none (some (.UnaryOp .USub c _)) _) _ => chkE a sc x && isC 1 c
  | .len a, sc, .Call f [x] [] _ => isB sc "len" f && chkE a sc x
  | .sum a, sc, .Call f [x] [] _ => isB sc "sum" f && chkE a sc x
  | .all a, sc, .Call f [x] [] _ => isB sc "all" f && chkE a sc x
  | .any a, sc, .Call f [x] [] _ => isB sc "any" f && chkE a sc x
  | .sorted _ a, sc, .Call f [x] [] _ => isB sc "sorted" f && chkE a sc x
--   | .sset _ a, sc, .Call f [.Call g [x] [] _] [] _ => isB sc "sorted" f && isB sc "set" g && chkE a sc x
--   | .lset a, sc, .Call f [.Call g [x] [] _] [] _ => isB sc "len" f && isB sc "set" g && chkE a sc x
  | .list a, sc, .Call f [x] [] _ => isB sc "list" f && chkE a sc x
  | .tuple a, sc, .Call f [x] [] _ => isB sc "tuple" f && chkE a sc x
--   | .rngL a, sc, .Call f [.Call g [x] [] _] [] _ => isB sc "list" f && isB sc "range" g && chkE a sc x
--   | .rngT a, sc, .Call f [.Call g [x] [] _] [] _ => isB sc "tuple" f && isB sc "range" g && chkE a sc x
  | .toInt a, sc, .Call f [x] [] _ => isB sc "int" f && chkE a sc x
  | .abs a, sc, .Call f [x] [] _ => isB sc "abs" f && chkE a sc x
  | .repr a, sc, .Call f [x] [] _ => isB sc "repr" f && chkE a sc x
  | .min2 a b, sc, .Call f [x, y] [] _ => isB sc "min" f && chkE a sc x && chkE b sc y
  | .max2 a b, sc, .Call f [x, y] [] _ => isB sc "max" f && chkE a sc x && chkE b sc y
--   | .minL _ a, sc, .Call f [x] [] _ => isB sc "min" f && chkE a sc x
--   | .maxL a, sc, .Call f [x] [] _ => isB sc "max" f && chkE a sc x
  | .isi .seq a, sc, .Call f [x, .Tuple [t, u] _ _] [] _ => isB sc "isinstance" f && chkE a sc x && (isTy sc "list" t && isTy sc "tuple" u || isTy sc "tuple" t && isTy sc "list" u)
  | .isi k a, sc, .Call f [x, t] [] _ => k != .seq && isB sc "isinstance" f && chkE a sc x && isTy sc (kdStr k) t
--   | .count a b, sc, .Call (.Attribute x m _) [y] [] _ => m == "count" && chkE a sc x && chkE b sc y
--   | .index a b, sc, .Call (.Attribute x m _) [y] [] _ => m == "index" && chkE a sc x && chkE b sc y
  | .call f es, sc, .Call (.Name g _) xs [] _ => f == g && glB sc g && nameOk g && chkEs es sc xs
  | .callk f ks _ ps es, sc, .Call (.Name g _) xs kws _ => f == g && glB sc g && nameOk g && chkKw ks kws && chkEs ps sc xs && chkEs es sc (kwVals kws)
  | .callp f p es, sc, .Call (.Name g _) (x :: xs) [] _ => f == g && glB sc g && nameOk g && isNm N sc p x && chkEs es sc xs
  | .pot0 p, sc, .Subscript x y _ => isNm N sc p x && isC 0 y
  | .pot1 p, sc, .Subscript x y _ => isNm N sc p x && isC 1 y
  | .slen p, sc, .Call f [x] [] _ => isB sc "len" f && isNm N sc p x
  | .six p a, sc, .Subscript x y _ => isNm N sc p x && chkE a sc y
  | .calls f p a, sc, .Call (.Name g _) [x, y] [] _ => f == g && glB sc g && nameOk g && isNm N sc p x && chkE a sc y
  | .calln f h p a es, sc, .Call (.Name g _) (.Call (.Name g2 _) [x, y] [] _ :: xs) [] _ => f == g && glB sc g && nameOk g && h == g2 && glB sc g2 && nameOk g2 && isNm N sc p x && chkE a sc y && chkEs es sc xs
  | .comp elt pt it own cond, sc, .ListComp x [⟨tg, i, ifs, 0⟩] scope _ => blkC N sc scope own && (ptSlots pt).all (fun i => (own.map (·.2)).contains i) && (own.map (·.2)).all (fun i => decide (i < N.length)) && chkPt N pt scope tg && chkI it sc i && isTg it tg && chkC cond scope ifs && chkE elt scope x && decide ((own.map (·.2)).Nodup)
  | _, _, _ => false
def chkEs : Es → Scope → List Expr → Bool
  | .nil, _, [] => true
  | .cons e es, sc, x :: xs => chkE e sc x && chkEs es sc xs
  | _, _, _ => false
def chkO : Oe → Scope → Option Expr → Bool
  | .no, _, none => true
  | .yes e, sc, some x => chkE e sc x
  | _, _, _ => false
def chkC : Oe → Scope → List Expr → Bool
  | .no, _, [] => true
  | .yes e, sc, [x] => chkE e sc x
  | _, _, _ => false
def chkI : It → Scope → Expr → Bool
  | .seq a, sc, e => chkE a sc e
  | .rng a, sc, .Call f [x] [] _ => isB sc "range" f && chkE a sc x
  | .rng2 a b, sc, .Call f [x, y] [] _ => isB sc "range" f && chkE a sc x && chkE b sc y
  | .zip a b, sc, .Call f [x, y] [] _ => isB sc "zip" f && chkE a sc x && chkE b sc y
  | .enum a, sc, .Call f [x] [] _ => isB sc "enumerate" f && chkE a sc x
  | _, _, _ => false
end
end
end Z
/-! what an expression is worth, it comes to -/
namespace Z
open PySem L2 PySem.Spec PyProof.Rows
/-- a def's promise: what it tells of data -/
def spF (K : PySem.W.Frag) (n : Nat) (g : List D → Option D) (fr : Bool) : Sp := fun vs H Q _ => vs.length = n ∧ ∃ O ds d, OkO O H ∧ RpAll K O H vs ds ∧ g ds = some d ∧
  ∀ v H', Same H H' → Rp K O H' v d → (fr = true → FreshV K O H H' v d) → Q v H'
def spP (K : PySem.W.Frag) (n : Nat) (g : List D → Int × Int → Option (D × (Int × Int))) (fr : Bool) : Sp := fun vs H Q _ => vs.length = n + 1 ∧ ∃ O p ws x y ds d x' y', vs = .ref p :: ws ∧ H p = some (.lst [.int x, .int y]) ∧ O p ∧
  OkO O H ∧ RpAll K O H ws ds ∧ g ds (x, y) = some (d, (x', y')) ∧
  ∀ v H', SameX (some p) H H' → H' p = some (.lst [.int x', .int y']) → Rp K O H' v d → (fr = true → FreshV K O H H' v d) → Q v H'
def spS (K : PySem.W.Frag) (g : List Int → Int → Option (Int × Int)) : Sp := fun vs H Q _ => vs.length = 2 ∧ ∃ a ns i x y, vs = [.ref a, .int i] ∧ SqF K H a (ns.map V.int) ∧ g ns i = some (x, y) ∧
  ∀ p H', Same H H' → H p = none → H' p = some (.lst [.int x, .int y]) → Q (.ref p) H'
structure TabOk (P : Program) (w : World) (K : PySem.W.Frag) (mg : Str → Option Value) (base : Heap) (Γ : Tab) (k : Nat) : Prop where
  fn : ∀ f g, Γ.fn f = some g → ∃ fa fd ps, mg f = some (.ref fa) ∧ PySem.W.keepIn K (.ref fa) = true ∧ FnG P w K mg base k fa fd ps (spF K ps.length g (Γ.fresh f)) ∧ Binds K fd ps [] ∧
    (∀ ds d, g ds = some d → ds.length = ps.length) ∧ ∀ ks perm, Γ.kw f ks perm = true → KwB K fd ps ks perm
  pf : ∀ f g, Γ.pf f = some g → ∃ fa fd ps n, mg f = some (.ref fa) ∧ PySem.W.keepIn K (.ref fa) = true ∧ ps.length = n + 1 ∧ FnG P w K mg base k fa fd ps (spP K n g (Γ.fresh f)) ∧ Binds K fd ps [] ∧
    (∀ ds xy d, g ds xy = some d → ds.length = n)
  sf : ∀ f g, Γ.sf f = some g → ∃ fa fd ps, mg f = some (.ref fa) ∧ PySem.W.keepIn K (.ref fa) = true ∧ FnG P w K mg base k fa fd ps (spS K g) ∧ Binds K fd ps []
  glb : ∀ x d, Γ.glb x = some d → ∃ u v, mg x = some u ∧ VRel v u ∧ ∀ O H, Rp K O H v d
  blt : ∀ x ∈ bltNames, mg x = none
structure Good (Γ : Tab) (k : Nat) (N : List Str) (sc : Scope) (X : Cx) : Prop where
  calm : X.calm = true
  N_ : X.N = N
  nd : N.Nodup
  room : Room k X.A
  guards : X.A.guards = some []
  kinds : ∀ x q, sc.names.lookup x = some q → ∃ q', X.env.scope.names.lookup x = some q' ∧ (q' = q ∨ (q = .free ∧ q' = .cell))
  fn : ∀ x, sc.names.lookup x = some .cell → X.fn x = true
  tab : TabOk X.prog X.w X.K X.mg X.base Γ k
def KOk (O : Addr → Prop) (σ : L2.St) (δ : Dl) (ks : List Nat) : Prop := ∀ i ∈ ks, ∀ d a, δ[i]? = some (Sl.own d) → σ[i]? = some (some (.ref a)) → ¬ O a
/-- a list that is not the pot -/
def NotP (P : Option Addr) (v : V) (d : D) : Prop := ∀ a ds, v = .ref a → d = .list ds → P ≠ some a
/-- an expression's reading -/
def tE (Γ : Tab) (K : PySem.W.Frag) (x : E) : TE := fun σ H Q => ∃ O P δ π d π', RS K O P σ H δ π ∧ evE Γ x δ π = some (d, π') ∧ KOk O σ δ (keeps Γ x) ∧
  ∀ v H', SameX P H H' → PotAt P H' π' → Rp K O H' v d → (fresh Γ x = true → FreshV K O H H' v d) → Q v H'
/-- .. where it is only looked at -/
def tP (Γ : Tab) (K : PySem.W.Frag) (x : E) : TE := fun σ H Q => ∃ O P δ π d π', RS K O P σ H δ π ∧ evE Γ x δ π = some (d, π') ∧ KOk O σ δ (peeks Γ x) ∧
  ∀ v H', SameX P H H' → PotAt P H' π' → Pk K O H' v d → NotP P v d → Q v H'
def tEs (Γ : Tab) (K : PySem.W.Frag) (xs : Es) : TA := fun σ H Q => ∃ O P δ π ds π', RS K O P σ H δ π ∧ evEs Γ xs δ π = some (ds, π') ∧ KOk O σ δ (keepsS Γ xs) ∧
  ∀ vs H', SameX P H H' → PotAt P H' π' → RpAll K O H' vs ds → Q vs H'
def tT (Γ : Tab) (K : PySem.W.Frag) (x : E) : TT := fun σ H Q => ∃ O P δ π b π', RS K O P σ H δ π ∧ evE Γ x δ π = some (.bool b, π') ∧ ∀ H', SameX P H H' → PotAt P H' π' → Q b H'
section
variable {X : Cx} {Γ : Tab} {k : Nat} {N : List Str} {sc : Scope} {x a b : E} {e f : Expr} {t t' : TE}
theorem peImp (h : PE X e t) (i : ∀ σ H Q, t' σ H Q → t σ H Q) : PE X e t' := ⟨fun pins s σ H Q I q => h.run pins s σ H Q I (i σ H Q q)⟩
theorem peRun (h : ∀ pins s σ H Q, Inv X pins σ H s → t' σ H Q → ∃ t, PE X e t ∧ t σ H Q) : PE X e t' := ⟨fun pins s σ H Q I q => by
  obtain ⟨t, h1, h2⟩ := h pins s σ H Q I q
  exact h1.run pins s σ H Q I h2⟩
theorem Good.gl (G : Good Γ k N sc X) {x : Str} (h : glB sc x = true) : Gl X x := by
  unfold glB at h
  split at h
  · rename_i q
    obtain ⟨q', e1, e2⟩ := G.kinds x _ q
    rcases e2 with rfl | ⟨z, _⟩
    · exact e1
    · cases z
  · cases h
theorem Good.vis (G : Good Γ k N sc X) {x : Str} (h : visB sc x = true) : Vis X.env.scope x := by
  unfold visB at h
  split at h
  · rename_i q
    obtain ⟨q', e1, rfl | ⟨z, _⟩⟩ := G.kinds x _ q
    · exact .inl e1
    · cases z
  · rename_i q
    obtain ⟨q', e1, rfl | ⟨z, _⟩⟩ := G.kinds x _ q
    · exact .inr (.inl e1)
    · cases z
  · rename_i q
    obtain ⟨q', e1, rfl | ⟨z, rfl⟩⟩ := G.kinds x _ q
    · exact .inr (.inr e1)
    · exact .inr (.inl e1)
  · cases h
theorem Good.loc (G : Good Γ k N sc X) {x : Str} (h : locB sc x = true) : Loc X.env.scope x ∧ (X.fn x = true ∨ X.env.scope.names.lookup x = some .local) := by
  unfold locB at h
  split at h
  · rename_i q
    obtain ⟨q', e1, rfl | ⟨z, _⟩⟩ := G.kinds x _ q
    · exact ⟨.inl e1, .inr e1⟩
    · cases z
  · rename_i q
    obtain ⟨q', e1, rfl | ⟨z, _⟩⟩ := G.kinds x _ q
    · exact ⟨.inr e1, .inl (G.fn x q)⟩
    · cases z
  · cases h
theorem nameOk_of {x : Str} (h : nameOk x = true) : (x == ("__debug__" : Str)) = false ∧ (x == ("__classdict__" : Str)) = false ∧ x ≠ "__name__" := by
  simp only [nameOk, Bool.and_eq_true, bne_iff_ne, ne_eq] at h
  exact ⟨beq_eq_false_iff_ne.mpr h.1.1, beq_eq_false_iff_ne.mpr h.1.2, h.2⟩
theorem nm_of {i : Nat} (h : isNm N sc i e = true) : ∃ y pos, e = .Name y pos ∧ N[i]? = some y ∧ visB sc y = true ∧ nameOk y = true := by
  cases e <;> simp only [isNm, Bool.false_eq_true, Bool.and_eq_true, beq_iff_eq] at h
  exact ⟨_, _, rfl, h.1.1, h.1.2, h.2⟩
theorem pe_nm (G : Good Γ k N sc X) {i : Nat} (h : isNm N sc i e = true) : PE X e (tVar i) := by
  obtain ⟨y, pos, rfl, h1, h2, h3⟩ := nm_of h
  have q := nameOk_of h3
  exact pe_var (by rw [G.N_]; exact h1) (G.vis h2) q.1 q.2.1
theorem isB_of {g : Str} (h : isB sc g e = true) : ∃ pos, e = .Name g pos ∧ glB sc g = true := by
  cases e <;> simp only [isB, Bool.false_eq_true, Bool.and_eq_true, beq_iff_eq] at h
  obtain ⟨rfl, h2⟩ := h
  exact ⟨_, rfl, h2⟩
theorem isC_of {i : Int} (h : isC i e = true) : ∃ k pos, e = .Constant (.int i) k pos := by
  cases e <;> try simp only [isC, Bool.false_eq_true] at h
  rename_i c k pos
  cases c <;> simp only [isC, Bool.false_eq_true, beq_iff_eq] at h
  subst h
  exact ⟨_, _, rfl⟩
theorem notStar {p : Pos} : chkE N x sc (.Starred e p) = false := by
  cases x with
  | isi k a => cases k <;> rfl
  | _ => rfl
theorem star1 (h : chkE N x sc e = true) (rest : List Expr) (env : Env) : starEach (e :: rest) env = (false, eval e env) :: starEach rest env := by
  cases e with
  | Starred e p => rw [notStar] at h; cases h
  | _ => rfl
theorem starNm {i : Nat} (h : isNm N sc i e = true) (rest : List Expr) (env : Env) : starEach (e :: rest) env = (false, eval e env) :: starEach rest env := by
  obtain ⟨y, pos, rfl, _⟩ := nm_of h
  rfl
theorem star0 : ∀ {es : Es} {xs : List Expr}, chkEs N es sc xs = true → ∀ (pos : Pos) (env : Env), (backTo pos (starEach xs env)).any (·.1) = false
  | .nil, [], _, _, _ => rfl
  | .nil, _ :: _, h, _, _ => by simp [chkEs] at h
  | .cons _ _, [], h, _, _ => by simp [chkEs] at h
  | .cons e es, x :: xs, h, pos, env => by
    simp only [chkEs, Bool.and_eq_true] at h
    rw [star1 h.1]
    have := star0 (es := es) h.2 pos env
    simpa [backTo] using this
variable {O : Addr → Prop} {P : Option Addr} {σ : L2.St} {H H' : Hp} {δ : Dl} {π π' : Pot} {d : D} {v : V}
theorem RS.okO (R : RS X.K O P σ H δ π) : OkO O H := R.in_
theorem KOk.pot (R : RS X.K O P σ H δ π) (ks : List Nat) : KOk (potO P) σ δ ks := fun i _ d a h1 h2 h3 => by
  obtain ⟨b, vs, ds, _, e2, _, _, e5⟩ := R.own i d h1
  rw [e2] at h2
  cases h2
  exact e5 h3
/-- looked at alone: of the least O -/
theorem low (R : RS X.K O P σ H δ π) (ev : evE Γ x δ π = some (d, π')) {C : VK} (q : ∀ v H', SameX P H H' → PotAt P H' π' → Rp X.K (potO P) H' v d → C v H') : tE Γ X.K x σ H C :=
  ⟨potO P, P, δ, π, d, π', R.least, ev, KOk.pot R _, fun v H' s p r _ => q v H' s p r⟩
theorem Rp.next {K : PySem.W.Frag} (R : RS K O P σ H δ π) (s : SameX P H H') (r : Rp K O H v d) : Rp K O H' v d := Rp.frame (R.frm s) _ _ r
theorem RpAll.next {K : PySem.W.Frag} {vs : List V} {ds : List D} (R : RS K O P σ H δ π) (s : SameX P H H') (r : RpAll K O H vs ds) : RpAll K O H' vs ds := RpAll.frame (R.frm s) _ _ r
theorem low2 {da db : D} {π1 π2 : Pot} (R : RS X.K O P σ H δ π) (e1 : evE Γ a δ π = some (da, π1)) (e2 : evE Γ b δ π1 = some (db, π2)) {C : V → V → Hp → Prop}
    (q : ∀ v w H', SameX P H H' → PotAt P H' π2 → RS X.K (potO P) P σ H' δ π2 → Rp X.K (potO P) H' v da → Rp X.K (potO P) H' w db → C v w H') : tE Γ X.K a σ H fun v H1 => tE Γ X.K b σ H1 fun w H2 => C v w H2 :=
  low R e1 fun v H1 s1 p1 r1 => low (R.next s1 p1) e2 fun w H2 s2 p2 r2 => q v w H2 (s1.trans s2) p2 (R.least.next (s1.trans s2) p2) (Rp.next (R.least.next s1 p1) s2 r1) r2
/-- a scalar is of any O -/
theorem flat_any {K : PySem.W.Frag} {O O' : Addr → Prop} : ∀ (d : D) (v : V), flatD d = true → Rp K O H v d → Rp K O' H v d
  | .none, _, _, h => by cases h; exact .non
  | .bool b, _, _, h => by cases h; exact .bl b
  | .int i, _, _, h => by cases h; exact .int i
  | .str x, _, _, h => by cases h; exact .str x
  | .list ds, _, c, h => by simp [flatD] at c
  | .tuple ds, _, c, h => by
    cases h with
    | tup h1 h3 => exact .tup h1 (all ds _ (by simpa [flatD] using c) h3)
  | .dict _, _, c, h => by simp [flatD] at c
where all {K : PySem.W.Frag} {O O' : Addr → Prop} : ∀ (ds : List D) (vs : List V), flatD.flatAll ds = true → RpAll K O H vs ds → RpAll K O' H vs ds
  | [], _, _, h => by cases h; exact .nil
  | d :: ds, _, c, h => by
    simp only [flatD.flatAll, Bool.and_eq_true] at c
    cases h with
    | cons h1 h2 => exact .cons (flat_any d _ c.1 h1) (all ds _ c.2 h2)
theorem notRef {p : Addr} (R : RS X.K O P σ H δ π) (hp : H p = none) : P ≠ some p := fun z => by
  obtain ⟨_, _, _, _, e⟩ := R.at_ p z
  rw [hp] at e; cases e
theorem Rp.notP (R : RS X.K O P σ H δ π) {d : D} {v : V} (r : Rp X.K O H v d) : NotP P v d := fun p ds e e2 z => by
  subst e e2
  cases r with
  | lst _ n _ => exact n (R.at_ p z).1
theorem Pk.next (R : RS X.K O P σ H δ π) (s : SameX P H H') (n : NotP P v d) (r : Pk X.K O H v d) : Pk X.K O H' v d := by
  cases d with
  | list ds =>
    obtain ⟨a, vs, rfl, h1, h2⟩ := r
    exact ⟨a, vs, rfl, s a _ (n a ds rfl rfl) h1, RpAll.next R s h2⟩
  | _ => exact Rp.next R s r
end
end Z
namespace Z
open PySem L2 PySem.Spec PyProof.Rows
section
variable {X : Cx} {Γ : Tab} {k : Nat} {N : List Str} {sc : Scope} {x a b c : E} {e f g : Expr} {t t' : TE} {pos : Pos}
variable {O : Addr → Prop} {P : Option Addr} {σ : L2.St} {H H' : Hp} {δ : Dl} {π π' : Pot} {d : D} {v : V}
theorem KOk.mono {ks ls : List Nat} (h : KOk O σ δ ls) (m : ∀ i ∈ ks, i ∈ ls) : KOk O σ δ ks := fun i hi => h i (m i hi)
theorem KOk.left {ks ls : List Nat} (h : KOk O σ δ (ks ++ ls)) : KOk O σ δ ks := h.mono fun i hi => List.mem_append_left _ hi
theorem KOk.right {ks ls : List Nat} (h : KOk O σ δ (ks ++ ls)) : KOk O σ δ ls := h.mono fun i hi => List.mem_append_right _ hi
theorem bind_some {α β : Type} {o : Option α} {f : α → Option β} {r : β} (h : (o >>= f) = some r) : ∃ a, o = some a ∧ f a = some r := by
  cases o with
  | none => cases h
  | some a => exact ⟨a, rfl, h⟩
theorem n_var (G : Good Γ k N sc X) {i : Nat} (h : isNm N sc i e = true) : PE X e (tE Γ X.K (.var i)) := by
  refine peImp (pe_nm G h) fun σ H Q ⟨O, P, δ, π, d, π', R, ev, ko, q⟩ => ?_
  simp only [evE] at ev
  split at ev
  · rename_i d' h1
    cases ev
    obtain ⟨v, h2, r⟩ := R.val i d h1
    exact ⟨v, h2, q v H SameX.refl R.potAt r (fun z => by cases z)⟩
  · rename_i d' h1
    cases ev
    obtain ⟨p, vs, ds, rfl, h2, h3, h4, h5⟩ := R.own i d h1
    exact ⟨_, h2, q _ H SameX.refl R.potAt (.lst h3 (ko i (by simp [keeps]) _ _ h1 h2) h4) (fun z => by cases z)⟩
  · cases ev
theorem n_peek (G : Good Γ k N sc X) (h : chkE N x sc e = true) (hx : PE X e (tE Γ X.K x)) : PE X e (tP Γ X.K x) := by
  have other : (peeks Γ x = keeps Γ x) → PE X e (tP Γ X.K x) := fun pk => peImp hx fun σ H Q ⟨O, P, δ, π, d, π', R, ev, ko, q⟩ =>
    ⟨O, P, δ, π, d, π', R, ev, pk ▸ ko, fun v H' s p r _ => q v H' s p r.pk (Rp.notP (R.next s p) r)⟩
  cases x with
  | var i =>
    have h' : isNm N sc i e = true := h
    refine peImp (pe_nm G h') fun σ H Q ⟨O, P, δ, π, d, π', R, ev, ko, q⟩ => ?_
    simp only [evE] at ev
    split at ev
    · rename_i d' h1
      cases ev
      obtain ⟨v, h2, r⟩ := R.val i d h1
      exact ⟨v, h2, q v H SameX.refl R.potAt r.pk (Rp.notP R r)⟩
    · rename_i d' h1
      cases ev
      obtain ⟨p, vs, ds, rfl, h2, h3, h4, h5⟩ := R.own i d h1
      exact ⟨_, h2, q _ H SameX.refl R.potAt ⟨p, vs, rfl, h3, h4⟩ (fun a _ e _ => by cases e; exact h5)⟩
    · cases ev
  | _ => exact other (by simp only [peeks, keeps])
theorem peek2 {da db : D} {π1 π2 : Pot} (R : RS X.K O P σ H δ π) (e1 : evE Γ a δ π = some (da, π1)) (e2 : evE Γ b δ π1 = some (db, π2)) (ko : KOk O σ δ (peeks Γ a ++ peeks Γ b)) {C : V → V → Hp → Prop}
    (q : ∀ v w H', SameX P H H' → PotAt P H' π2 → RS X.K O P σ H' δ π2 → Pk X.K O H' v da → Pk X.K O H' w db → C v w H') : tP Γ X.K a σ H fun v H1 => tP Γ X.K b σ H1 fun w H2 => C v w H2 :=
  ⟨O, P, δ, π, da, π1, R, e1, ko.left, fun v H1 s1 p1 r1 n1 => ⟨O, P, δ, π1, db, π2, R.next s1 p1, e2, ko.right, fun w H2 s2 p2 r2 n2 =>
    q v w H2 (s1.trans s2) p2 (R.next (s1.trans s2) p2) (Pk.next (R.next s1 p1) s2 n1 r1) r2⟩⟩
theorem PotAt.same (h : PotAt P H π) (s : Same H H') : PotAt P H' π := fun p e => let ⟨x, y, h1, h2⟩ := h p e
  ⟨x, y, h1, s p (.lst [.int x, .int y]) h2⟩
/-- an operation of ints -/
theorem n_int2 {op : Operator} (ha : PE X e (tE Γ X.K a)) (hb : PE X f (tE Γ X.K b)) (mk : E)
    (h : ∀ δ π d π', evE Γ mk δ π = some (d, π') → ∃ da π1 db i, evE Γ a δ π = some (da, π1) ∧ evE Γ b δ π1 = some (db, π') ∧ d = .int i ∧ OpV X (binaryOp op) da db d) : PE X (.BinOp e op f pos) (tE Γ X.K mk) := by
  refine peRun fun pins s σ H Q I ⟨O, P, δ, π, d, π', R, ev, ko, q⟩ => ?_
  obtain ⟨da, π1, db, i, e1, e2, rfl, r, hr, hv⟩ := h δ π d π' ev
  refine ⟨_, pe_op hr ha hb, ?_⟩
  refine low2 R e1 e2 fun v w H' s1 p1 R1 r1 r2 => hv _ H' v w Q R1.okO r1.pk r2.pk fun u H2 s2 r3 _ => ?_
  exact q u H2 (s1.trans (SameX.of s2)) (p1.same s2) (flat_any _ _ rfl r3) fun _ => fresh_flat fun xs z => by cases z
theorem n_sub (ha : PE X e (tE Γ X.K a)) (hb : PE X f (tE Γ X.K b)) : PE X (.BinOp e .Sub f pos) (tE Γ X.K (.sub a b)) := n_int2 ha hb _ fun δ π d π' ev => by
  simp only [evE] at ev
  obtain ⟨⟨da, π1⟩, e1, ev⟩ := bind_some ev
  obtain ⟨⟨db, π2⟩, e2, ev⟩ := bind_some ev
  obtain ⟨i, e3, ev⟩ := bind_some ev
  obtain ⟨j, e4, ev⟩ := bind_some ev
  cases ev
  cases da <;> simp [asInt] at e3
  cases db <;> simp [asInt] at e4
  subst e3 e4
  exact ⟨_, _, _, _, e1, e2, rfl, subV⟩
theorem n_fdiv (ha : PE X e (tE Γ X.K a)) (hb : PE X f (tE Γ X.K b)) : PE X (.BinOp e .FloorDiv f pos) (tE Γ X.K (.fdiv a b)) := n_int2 ha hb _ fun δ π d π' ev => by
  simp only [evE] at ev
  obtain ⟨⟨da, π1⟩, e1, ev⟩ := bind_some ev
  obtain ⟨⟨db, π2⟩, e2, ev⟩ := bind_some ev
  obtain ⟨z, e3, ev⟩ := bind_some ev
  cases ev
  have e3' := e3
  unfold fdivD at e3
  split at e3
  · split at e3
    · cases e3; exact ⟨_, _, _, _, e1, e2, rfl, fdivV e3'⟩
    · cases e3
  · cases e3
theorem n_mod (ha : PE X e (tE Γ X.K a)) (hb : PE X f (tE Γ X.K b)) : PE X (.BinOp e .Mod f pos) (tE Γ X.K (.mod a b)) := n_int2 ha hb _ fun δ π d π' ev => by
  simp only [evE] at ev
  obtain ⟨⟨da, π1⟩, e1, ev⟩ := bind_some ev
  obtain ⟨⟨db, π2⟩, e2, ev⟩ := bind_some ev
  obtain ⟨z, e3, ev⟩ := bind_some ev
  cases ev
  have e3' := e3
  unfold modD at e3
  split at e3
  · split at e3
    · cases e3; exact ⟨_, _, _, _, e1, e2, rfl, modV e3'⟩
    · cases e3
  · cases e3
/-- a new list of a value that is told -/
theorem none_back {p : Addr} {H1 : Hp} (q : PotAt P H1 π') (s : SameX P H H1) (hp : H1 p = none) : H p = none := by
  cases e : H p with
  | none => rfl
  | some o =>
    by_cases hP : P = some p
    · obtain ⟨x, y, _, e2⟩ := q p hP
      rw [hp] at e2; cases e2
    · rw [s p o hP e] at hp; cases hp
theorem FreshV.back {K : PySem.W.Frag} {H1 : Hp} (q : PotAt P H1 π') (s : SameX P H H1) (h : FreshV K O H1 H' v d) : FreshV K O H H' v d := fun xs e =>
  let ⟨p, ws, h1, h2, h3⟩ := h xs e; ⟨p, ws, h1, none_back q s h2, h3⟩
end
end Z
namespace Z
open PySem L2 PySem.Spec PyProof.Rows
section
variable {X : Cx} {Γ : Tab} {k : Nat} {N : List Str} {sc : Scope} {x a b c : E} {e f g : Expr} {t t' : TE} {pos p0 : Pos}
variable {O : Addr → Prop} {P : Option Addr} {σ : L2.St} {H H' : Hp} {δ : Dl} {π π' : Pot} {d : D} {v : V}
/-- an operation that may hand items on -/
theorem n_op2 {op : Operator} (ha : PE X e (tP Γ X.K a)) (hb : PE X f (tP Γ X.K b)) (mk : E) (hk : ∀ i, i ∈ peeks Γ a ++ peeks Γ b → i ∈ keeps Γ mk)
    (h : ∀ δ π d π', evE Γ mk δ π = some (d, π') → ∃ da π1 db, evE Γ a δ π = some (da, π1) ∧ evE Γ b δ π1 = some (db, π') ∧ OpV X (binaryOp op) da db d) : PE X (.BinOp e op f pos) (tE Γ X.K mk) := by
  refine peRun fun pins s σ H Q I ⟨O, P, δ, π, d, π', R, ev, ko, q⟩ => ?_
  obtain ⟨da, π1, db, e1, e2, r, hr, hv⟩ := h δ π d π' ev
  refine ⟨_, pe_op hr ha hb, ?_⟩
  exact peek2 R e1 e2 (ko.mono hk) fun v w H' s1 p1 R1 r1 r2 => hv _ H' v w Q R1.okO r1 r2 fun u H2 s2 r3 fr =>
    q u H2 (s1.trans (SameX.of s2)) (p1.same s2) r3 fun _ => FreshV.back p1 s1 fr
theorem n_add (ha : PE X e (tP Γ X.K a)) (hb : PE X f (tP Γ X.K b)) : PE X (.BinOp e .Add f pos) (tE Γ X.K (.add a b)) := n_op2 ha hb _ (fun i h => h) fun δ π d π' ev => by
  simp only [evE] at ev
  obtain ⟨⟨da, π1⟩, e1, ev⟩ := bind_some ev
  obtain ⟨⟨db, π2⟩, e2, ev⟩ := bind_some ev
  obtain ⟨z, e3, ev⟩ := bind_some ev
  cases ev
  exact ⟨_, _, _, e1, e2, addV e3⟩
theorem peek1 {da : D} {π1 : Pot} (R : RS X.K O P σ H δ π) (e1 : evE Γ a δ π = some (da, π1)) (ko : KOk O σ δ (peeks Γ a)) {C : V → Hp → Prop}
    (q : ∀ v H', SameX P H H' → PotAt P H' π1 → RS X.K O P σ H' δ π1 → Pk X.K O H' v da → NotP P v da → C v H') : tP Γ X.K a σ H C :=
  ⟨O, P, δ, π, da, π1, R, e1, ko, fun v H1 s1 p1 r1 n1 => q v H1 s1 p1 (R.next s1 p1) r1 n1⟩
theorem low1 {da : D} {π1 : Pot} (R : RS X.K O P σ H δ π) (e1 : evE Γ a δ π = some (da, π1)) {C : V → Hp → Prop}
    (q : ∀ v H', SameX P H H' → PotAt P H' π1 → RS X.K (potO P) P σ H' δ π1 → Rp X.K (potO P) H' v da → C v H') : tE Γ X.K a σ H C :=
  low R e1 fun v H1 s1 p1 r1 => q v H1 s1 p1 (R.least.next s1 p1) r1
theorem n_mul (ha : PE X e (tP Γ X.K a)) (hb : PE X f (tE Γ X.K b)) : PE X (.BinOp e .Mult f pos) (tE Γ X.K (.mul a b)) := by
  refine peRun fun pins s σ H Q I ⟨O, P, δ, π, d, π', R, ev, ko, q⟩ => ?_
  simp only [evE] at ev
  obtain ⟨⟨da, π1⟩, e1, ev⟩ := bind_some ev
  obtain ⟨⟨db, π2⟩, e2, ev⟩ := bind_some ev
  obtain ⟨z, e3, ev⟩ := bind_some ev
  cases ev
  obtain ⟨r, hr, hv⟩ := mulV (X := X) e3
  have hb2 : ∃ j, db = .int j := by
    cases db <;> first | exact ⟨_, rfl⟩ | (cases da <;> simp [mulD] at e3)
  obtain ⟨j, rfl⟩ := hb2
  refine ⟨_, pe_op hr ha hb, ?_⟩
  refine peek1 R e1 ko fun v H1 s1 p1 R1 r1 n1 => low1 R1 e2 fun w H2 s2 p2 R2 r2 => ?_
  have R1' := R1.next s2 p2
  exact hv _ H2 v w Q R1'.okO (Pk.next R1 s2 n1 r1) (flat_any _ _ rfl r2).pk fun u H3 s3 r3 fr =>
    q u H3 ((s1.trans s2).trans (SameX.of s3)) (p2.same s3) r3 fun _ => FreshV.back p2 (s1.trans s2) fr
theorem n_neg (ha : PE X e (tE Γ X.K a)) : PE X (.UnaryOp .USub e pos) (tE Γ X.K (.neg a)) := by
  refine peRun fun pins s σ H Q I ⟨O, P, δ, π, d, π', R, ev, ko, q⟩ => ?_
  simp only [evE] at ev
  obtain ⟨⟨da, π1⟩, e1, ev⟩ := bind_some ev
  obtain ⟨i, e2, ev⟩ := bind_some ev
  cases ev
  cases da <;> simp [asInt] at e2
  subst e2
  obtain ⟨r, hr, hv⟩ := negV (X := X)
  exact ⟨_, pe_un hr ha, low1 R e1 fun v H1 s1 p1 R1 r1 => hv _ H1 v Q r1.pk fun u H2 s2 r2 _ => q u H2 (s1.trans (SameX.of s2)) (p1.same s2) (flat_any _ _ rfl r2) fun _ => fresh_flat fun xs z => by cases z⟩
theorem n_pow {i j : Nat} (he : isC i e = true) (hf : isC j f = true) : PE X (.BinOp e .Pow f pos) (tE Γ X.K (.pow i j)) := by
  obtain ⟨k1, p1, rfl⟩ := isC_of he
  obtain ⟨k2, p2, rfl⟩ := isC_of hf
  refine peRun fun pins s σ H Q I ⟨O, P, δ, π, d, π', R, ev, ko, q⟩ => ?_
  simp only [evE] at ev
  split at ev
  · rename_i hb
    cases ev
    have h100 : ((i : Int)).natAbs < 2 ^ 64 := by
      rw [Int.natAbs_natCast]
      exact Nat.lt_trans hb.1 (by decide)
    refine ⟨_, pe_op op_pow pe_int pe_int, ⟨_, _, rfl, rfl, ⟨by omega, by omega, h100⟩, ?_⟩⟩
    show Q (.int ((i : Int) ^ (j : Int).toNat)) H
    rw [Int.toNat_natCast]
    exact q _ H SameX.refl R.potAt (.int _) fun _ => fresh_flat fun xs z => by cases z
  · cases ev
/-- a built-in of one argument, looked at -/
theorem n_call1 {id : Str} {fv : Value} (G : Good Γ k N sc X) (hb : isB sc id f = true) (hin : id ∈ bltNames) (hv : bootBuiltins id = some fv) (hfv : (∃ n, fv = .builtin n) ∨ ∃ n, fv = .type n) (hc : chkE N a sc e = true) (ha : PE X e (tP Γ X.K a)) (mk : E)
    (hk : ∀ i, i ∈ peeks Γ a → i ∈ keeps Γ mk) (h : ∀ δ π d π', evE Γ mk δ π = some (d, π') → ∃ da, evE Γ a δ π = some (da, π') ∧ Call1 X fv da d)
    (hn : id ≠ "__name__" := by decide) (hdb : (id == ("__debug__" : Str)) = false := by decide) : PE X (.Call f [e] [] pos) (tE Γ X.K mk) := by
  obtain ⟨pf, rfl, hg⟩ := isB_of hb
  refine peRun fun pins s σ H Q I ⟨O, P, δ, π, d, π', R, ev, ko, q⟩ => ?_
  obtain ⟨da, e1, r, hr, hvv⟩ := h δ π d π' ev
  have hst := star1 hc [] X.env
  have rd : tCB r (tCons (tP Γ X.K a) tNil) σ H Q := peek1 R e1 (ko.mono hk) fun v H1 s1 p1 R1 r1 n1 => hvv _ H1 v Q R1.okO r1 fun u H2 s2 r2 fr =>
    q u H2 (s1.trans (SameX.of s2)) (p1.same s2) r2 fun _ => FreshV.back p1 s1 fr
  rcases hfv with ⟨n, rfl⟩ | ⟨n, rfl⟩
  · exact ⟨_, pe_callB hr (G.gl hg) (G.tab.blt _ hin) hv (pa_cons ha pa_nil hst) hn hdb hst rfl, rd⟩
  · exact ⟨_, pe_callTy hr (G.gl hg) (G.tab.blt _ hin) hv (pa_cons ha pa_nil hst) hn hdb hst rfl, rd⟩
/-- .. whose answer is flat -/
theorem n_call1F {id : Str} {fv : Value} (G : Good Γ k N sc X) (hb : isB sc id f = true) (hin : id ∈ bltNames) (hv : bootBuiltins id = some fv) (hfv : (∃ n, fv = .builtin n) ∨ ∃ n, fv = .type n) (hc : chkE N a sc e = true) (ha : PE X e (tE Γ X.K a)) (mk : E)
    (h : ∀ δ π d π', evE Γ mk δ π = some (d, π') → flatD d = true ∧ ∃ da, evE Γ a δ π = some (da, π') ∧ Call1 X fv da d)
    (hn : id ≠ "__name__" := by decide) (hdb : (id == ("__debug__" : Str)) = false := by decide) : PE X (.Call f [e] [] pos) (tE Γ X.K mk) := by
  obtain ⟨pf, rfl, hg⟩ := isB_of hb
  refine peRun fun pins s σ H Q I ⟨O, P, δ, π, d, π', R, ev, ko, q⟩ => ?_
  obtain ⟨fl, da, e1, r, hr, hvv⟩ := h δ π d π' ev
  have hst := star1 hc [] X.env
  have rd : tCB r (tCons (tE Γ X.K a) tNil) σ H Q := low1 R e1 fun v H1 s1 p1 R1 r1 => hvv _ H1 v Q R1.okO r1.pk fun u H2 s2 r2 fr =>
    q u H2 (s1.trans (SameX.of s2)) (p1.same s2) (flat_any _ _ fl r2) fun _ => fresh_fl fl
  rcases hfv with ⟨n, rfl⟩ | ⟨n, rfl⟩
  · exact ⟨_, pe_callB hr (G.gl hg) (G.tab.blt _ hin) hv (pa_cons ha pa_nil hst) hn hdb hst rfl, rd⟩
  · exact ⟨_, pe_callTy hr (G.gl hg) (G.tab.blt _ hin) hv (pa_cons ha pa_nil hst) hn hdb hst rfl, rd⟩
theorem n_len (G : Good Γ k N sc X) (hb : isB sc "len" f = true) (hc : chkE N a sc e = true) (ha : PE X e (tE Γ X.K a)) : PE X (.Call f [e] [] pos) (tE Γ X.K (.len a)) :=
  n_call1F G hb (by decide) PySem.boot_len (.inl ⟨_, rfl⟩) hc ha _ fun δ π d π' ev => by
    simp only [evE] at ev
    obtain ⟨⟨da, π1⟩, e1, ev⟩ := bind_some ev
    obtain ⟨xs, e2, ev⟩ := bind_some ev
    cases ev
    exact ⟨rfl, da, e1, lenV e2⟩
theorem n_sum (G : Good Γ k N sc X) (hb : isB sc "sum" f = true) (hc : chkE N a sc e = true) (ha : PE X e (tE Γ X.K a)) : PE X (.Call f [e] [] pos) (tE Γ X.K (.sum a)) :=
  n_call1F (fv := .builtin "sum") G hb (by decide) (by decide +kernel) (.inl ⟨_, rfl⟩) hc ha _ fun δ π d π' ev => by
    simp only [evE] at ev
    obtain ⟨⟨da, π1⟩, e1, ev⟩ := bind_some ev
    obtain ⟨xs, e2, ev⟩ := bind_some ev
    obtain ⟨ns, e3, ev⟩ := bind_some ev
    cases ev
    exact ⟨rfl, da, e1, sumV G.calm e2 e3⟩
theorem n_all (G : Good Γ k N sc X) (hb : isB sc "all" f = true) (hc : chkE N a sc e = true) (ha : PE X e (tE Γ X.K a)) : PE X (.Call f [e] [] pos) (tE Γ X.K (.all a)) :=
  n_call1F (fv := .builtin "all") G hb (by decide) (by decide +kernel) (.inl ⟨_, rfl⟩) hc ha _ fun δ π d π' ev => by
    simp only [evE] at ev
    obtain ⟨⟨da, π1⟩, e1, ev⟩ := bind_some ev
    obtain ⟨xs, e2, ev⟩ := bind_some ev
    obtain ⟨ns, e3, ev⟩ := bind_some ev
    cases ev
    exact ⟨rfl, da, e1, allV G.calm e2 e3⟩
theorem n_any (G : Good Γ k N sc X) (hb : isB sc "any" f = true) (hc : chkE N a sc e = true) (ha : PE X e (tE Γ X.K a)) : PE X (.Call f [e] [] pos) (tE Γ X.K (.any a)) :=
  n_call1F (fv := .builtin "any") G hb (by decide) (by decide +kernel) (.inl ⟨_, rfl⟩) hc ha _ fun δ π d π' ev => by
    simp only [evE] at ev
    obtain ⟨⟨da, π1⟩, e1, ev⟩ := bind_some ev
    obtain ⟨xs, e2, ev⟩ := bind_some ev
    obtain ⟨ns, e3, ev⟩ := bind_some ev
    cases ev
    exact ⟨rfl, da, e1, anyV G.calm e2 e3⟩
theorem n_list (G : Good Γ k N sc X) (hb : isB sc "list" f = true) (hc : chkE N a sc e = true) (ha : PE X e (tP Γ X.K a)) : PE X (.Call f [e] [] pos) (tE Γ X.K (.list a)) :=
  n_call1 (fv := .type "list") G hb (by decide) (by decide +kernel) (.inr ⟨_, rfl⟩) hc ha _ (fun i h => h) fun δ π d π' ev => by
    simp only [evE] at ev
    obtain ⟨⟨da, π1⟩, e1, ev⟩ := bind_some ev
    obtain ⟨xs, e2, ev⟩ := bind_some ev
    cases ev
    exact ⟨da, e1, listV e2⟩
theorem n_tuple (G : Good Γ k N sc X) (hb : isB sc "tuple" f = true) (hc : chkE N a sc e = true) (ha : PE X e (tP Γ X.K a)) : PE X (.Call f [e] [] pos) (tE Γ X.K (.tuple a)) :=
  n_call1 (fv := .type "tuple") G hb (by decide) (by decide +kernel) (.inr ⟨_, rfl⟩) hc ha _ (fun i h => h) fun δ π d π' ev => by
    simp only [evE] at ev
    obtain ⟨⟨da, π1⟩, e1, ev⟩ := bind_some ev
    obtain ⟨xs, e2, ev⟩ := bind_some ev
    cases ev
    exact ⟨da, e1, tupleV e2⟩
theorem n_toInt (G : Good Γ k N sc X) (hb : isB sc "int" f = true) (hc : chkE N a sc e = true) (ha : PE X e (tE Γ X.K a)) : PE X (.Call f [e] [] pos) (tE Γ X.K (.toInt a)) :=
  n_call1F (fv := .type "int") G hb (by decide) (by decide +kernel) (.inr ⟨_, rfl⟩) hc ha _ fun δ π d π' ev => by
    simp only [evE] at ev
    obtain ⟨⟨da, π1⟩, e1, ev⟩ := bind_some ev
    cases da <;> simp only [reduceCtorEq] at ev <;> cases ev
    · exact ⟨rfl, _, e1, intBV⟩
    · exact ⟨rfl, _, e1, intV⟩
theorem n_abs (G : Good Γ k N sc X) (hb : isB sc "abs" f = true) (hc : chkE N a sc e = true) (ha : PE X e (tE Γ X.K a)) : PE X (.Call f [e] [] pos) (tE Γ X.K (.abs a)) :=
  n_call1F (fv := .builtin "abs") G hb (by decide) (by decide +kernel) (.inl ⟨_, rfl⟩) hc ha _ fun δ π d π' ev => by
    simp only [evE] at ev
    obtain ⟨⟨da, π1⟩, e1, ev⟩ := bind_some ev
    obtain ⟨i, e2, ev⟩ := bind_some ev
    cases ev
    cases da <;> simp [asInt] at e2
    subst e2
    exact ⟨rfl, _, e1, absV⟩
theorem n_repr (G : Good Γ k N sc X) (hb : isB sc "repr" f = true) (hc : chkE N a sc e = true) (ha : PE X e (tE Γ X.K a)) : PE X (.Call f [e] [] pos) (tE Γ X.K (.repr a)) :=
  n_call1F (fv := .builtin "repr") G hb (by decide) (by decide +kernel) (.inl ⟨_, rfl⟩) hc ha _ fun δ π d π' ev => by
    simp only [evE] at ev
    obtain ⟨⟨da, π1⟩, e1, ev⟩ := bind_some ev
    split at ev
    · rename_i h; cases ev; exact ⟨rfl, _, e1, reprV G.room G.guards h⟩
    · cases ev
end
end Z
namespace Z
open PySem L2 PySem.Spec PyProof.Rows
section
variable {X : Cx} {Γ : Tab} {k : Nat} {N : List Str} {sc : Scope} {x a b c : E} {e f g : Expr} {t t' : TE} {pos p0 : Pos}
variable {O : Addr → Prop} {P : Option Addr} {σ : L2.St} {H H' : Hp} {δ : Dl} {π π' : Pot} {d : D} {v : V}
theorem n_const {mk : E} {w : V} (hp : PE X e (tC w)) (h : ∀ δ π d π', evE Γ mk δ π = some (d, π') → π' = π ∧ (∀ xs, d ≠ .list xs) ∧ ∀ O H, Rp X.K O H w d) : PE X e (tE Γ X.K mk) :=
  peImp hp fun σ H Q ⟨O, P, δ, π, d, π', R, ev, ko, q⟩ => by
    obtain ⟨rfl, h1, h2⟩ := h δ π d π' ev
    exact q _ H SameX.refl R.potAt (h2 _ _) fun _ => fresh_flat h1
theorem n_glob (G : Good Γ k N sc X) {y : Str} (h1 : glB sc y = true) (h2 : nameOk y = true) : PE X (.Name y pos) (tE Γ X.K (.glob y)) := by
  refine peRun fun pins s σ H Q I ⟨O, P, δ, π, d, π', R, ev, ko, q⟩ => ?_
  simp only [evE] at ev
  obtain ⟨z, e1, ev⟩ := bind_some ev
  cases ev
  obtain ⟨u, v, hm, r, hr⟩ := G.tab.glb y _ e1
  exact ⟨_, pe_glob (G.gl h1) hm r (nameOk_of h2).1, q _ H SameX.refl R.potAt (hr _ _) fun z => by cases z⟩
theorem opIs_of {o : Op} {p : CmpOp} (h : opIs o p = true) : p = opOf o := by
  cases o <;> cases p <;> first | rfl | cases h
theorem notSet {p : Pos} {es : List Expr} {k' : Nat} : chkE N x sc (.Set es k' p) = false := by
  cases x with
  | isi k a => cases k <;> rfl
  | _ => rfl
theorem behind_of (h : chkE N x sc e = true) (op : CmpOp) : behindInMarks op e = false := by
  cases e with
  | Set es k' p => rw [notSet] at h; cases h
  | _ => rfl
theorem folded_of (h : chkE N x sc e = true) (env : Env) (v : Value) : foldedSetIterable e env v = pure v := by
  cases e with
  | Set es k' p => rw [notSet] at h; cases h
  | _ => rfl
theorem n_cmp (G : Good Γ k N sc X) {o : Op} {p : CmpOp} (ho : opIs o p = true) (hcb : chkE N b sc f = true) (ha : PE X e (tE Γ X.K a)) (hb : PE X f (tE Γ X.K b)) : PE X (.Compare e [p] [f] pos) (tE Γ X.K (.cmp o a b)) := by
  obtain rfl := opIs_of ho
  refine peRun fun pins s σ H Q I ⟨O, P, δ, π, d, π', R, ev, ko, q⟩ => ?_
  simp only [evE] at ev
  obtain ⟨⟨da, π1⟩, e1, ev⟩ := bind_some ev
  obtain ⟨⟨db, π2⟩, e2, ev⟩ := bind_some ev
  obtain ⟨c, e3, ev⟩ := bind_some ev
  cases ev
  obtain ⟨r, hr, hv⟩ := cmpV (X := X) G.room e3
  refine ⟨_, pe_cmpR hr ha hb (behind_of hcb _), low2 R e1 e2 fun v w H' s1 p1 R1 r1 r2 => hv _ H' v w Q R1.okO r1.pk r2.pk fun u H2 s2 r3 _ => ?_⟩
  exact q u H2 (s1.trans (SameX.of s2)) (p1.same s2) (flat_any _ _ rfl r3) fun _ => fresh_flat fun xs z => by cases z
theorem n_cmp2 (G : Good Γ k N sc X) {o o2 : Op} {p p2 : CmpOp} (ho : opIs o p = true) (ho2 : opIs o2 p2 = true) (hcb : chkE N b sc f = true) (hcc : chkE N c sc g = true) (ha : PE X e (tE Γ X.K a)) (hb : PE X f (tE Γ X.K b)) (hg : PE X g (tE Γ X.K c)) :
    PE X (.Compare e [p, p2] [f, g] pos) (tE Γ X.K (.cmp2 o o2 a b c)) := by
  obtain rfl := opIs_of ho
  obtain rfl := opIs_of ho2
  refine peRun fun pins s σ H Q I ⟨O, P, δ, π, d, π', R, ev, ko, q⟩ => ?_
  have hl : lastMarks [opOf o, opOf o2] [f, g] = false := behind_of hcc _
  simp only [evE] at ev
  obtain ⟨⟨da, π1⟩, e1, ev⟩ := bind_some ev
  obtain ⟨⟨db, π2⟩, e2, ev⟩ := bind_some ev
  obtain ⟨k1, e3, ev⟩ := bind_some ev
  obtain ⟨r, hr, hv⟩ := cmpV (X := X) G.room e3
  cases k1 with
  | false =>
    simp only [Bool.false_eq_true, if_false] at ev
    cases ev
    obtain ⟨r2, hr2, _⟩ : ∃ r2, OpR X (compareOp (opOf o2)) r2 ∧ True := ⟨fun _ _ _ _ => False, fun _ _ _ _ _ _ _ _ _ _ _ _ h => h.elim, trivial⟩
    refine ⟨_, pe_chain hr hr2 ha hb hg hl, low2 R e1 e2 fun v w H' s1 p1 R1 r1 r2 => hv _ H' v w _ R1.okO r1.pk r2.pk fun u H2 s2 r3 _ => ?_⟩
    cases r3
    exact ⟨false, rfl, q _ H2 (s1.trans (SameX.of s2)) (p1.same s2) (.bl _) fun _ => fresh_flat fun xs z => by cases z⟩
  | true =>
    simp only [if_true] at ev
    obtain ⟨⟨dc, π3⟩, e4, ev⟩ := bind_some ev
    obtain ⟨k2, e5, ev⟩ := bind_some ev
    cases ev
    obtain ⟨r2, hr2, hv2⟩ := cmpV (X := X) G.room e5
    refine ⟨_, pe_chain hr hr2 ha hb hg hl, low2 R e1 e2 fun v w H' s1 p1 R1 ra rb => hv _ H' v w _ R1.okO ra.pk rb.pk fun u H2 s2 r3 _ => ?_⟩
    cases r3
    refine ⟨true, rfl, ?_⟩
    have R2 := R1.next (SameX.of s2) (p1.same s2)
    exact low1 R2 e4 fun w' H3 s3 p3 R3 rc => hv2 _ H3 w w' Q R3.okO (Rp.next R2 s3 (rb.same s2)).pk rc.pk fun u H4 s4 r4 _ =>
      q u H4 (((s1.trans (SameX.of s2)).trans s3).trans (SameX.of s4)) (p3.same s4) (flat_any _ _ rfl r4) fun _ => fresh_flat fun xs z => by cases z
/-- a built-in of two arguments -/
theorem n_call2F {id : Str} {n : String} (G : Good Γ k N sc X) (hb : isB sc id f = true) (hin : id ∈ bltNames) (hv : bootBuiltins id = some (.builtin n)) (hca : chkE N a sc e = true) (hcb : chkE N b sc g = true) (ha : PE X e (tE Γ X.K a)) (hbb : PE X g (tE Γ X.K b)) (mk : E)
    (h : ∀ δ π d π', evE Γ mk δ π = some (d, π') → flatD d = true ∧ ∃ da π1 db, evE Γ a δ π = some (da, π1) ∧ evE Γ b δ π1 = some (db, π') ∧ Call2 X (.builtin n) da db d)
    (hn : id ≠ "__name__" := by decide) (hdb : (id == ("__debug__" : Str)) = false := by decide) : PE X (.Call f [e, g] [] pos) (tE Γ X.K mk) := by
  obtain ⟨pf, rfl, hg⟩ := isB_of hb
  refine peRun fun pins s σ H Q I ⟨O, P, δ, π, d, π', R, ev, ko, q⟩ => ?_
  obtain ⟨fl, da, π1, db, e1, e2, r, hr, hvv⟩ := h δ π d π' ev
  have hs1 := star1 hca [g] X.env
  have hs2 := star1 hcb [] X.env
  refine ⟨_, pe_callB hr (G.gl hg) (G.tab.blt _ hin) hv (pa_cons ha (pa_cons hbb pa_nil hs2) hs1) hn hdb hs1 (by rw [hs2]; rfl), ?_⟩
  exact low2 R e1 e2 fun v w H' s1 p1 R1 r1 r2 => hvv _ H' v w Q R1.okO r1.pk r2.pk fun u H2 s2 r3 fr =>
    q u H2 (s1.trans (SameX.of s2)) (p1.same s2) (flat_any _ _ fl r3) fun _ => fresh_fl fl
theorem n_min2 (G : Good Γ k N sc X) (hb : isB sc "min" f = true) (hca : chkE N a sc e = true) (hcb : chkE N b sc g = true) (ha : PE X e (tE Γ X.K a)) (hbb : PE X g (tE Γ X.K b)) : PE X (.Call f [e, g] [] pos) (tE Γ X.K (.min2 a b)) :=
  n_call2F (n := "min") G hb (by decide) (by decide +kernel) hca hcb ha hbb _ fun δ π d π' ev => by
    simp only [evE] at ev
    obtain ⟨⟨da, π1⟩, e1, ev⟩ := bind_some ev
    obtain ⟨⟨db, π2⟩, e2, ev⟩ := bind_some ev
    obtain ⟨i, e3, ev⟩ := bind_some ev
    obtain ⟨j, e4, ev⟩ := bind_some ev
    cases ev
    cases da <;> simp [asInt] at e3
    cases db <;> simp [asInt] at e4
    subst e3 e4
    exact ⟨rfl, _, _, _, e1, e2, min2V G.calm⟩
theorem n_max2 (G : Good Γ k N sc X) (hb : isB sc "max" f = true) (hca : chkE N a sc e = true) (hcb : chkE N b sc g = true) (ha : PE X e (tE Γ X.K a)) (hbb : PE X g (tE Γ X.K b)) : PE X (.Call f [e, g] [] pos) (tE Γ X.K (.max2 a b)) :=
  n_call2F (n := "max") G hb (by decide) (by decide +kernel) hca hcb ha hbb _ fun δ π d π' ev => by
    simp only [evE] at ev
    obtain ⟨⟨da, π1⟩, e1, ev⟩ := bind_some ev
    obtain ⟨⟨db, π2⟩, e2, ev⟩ := bind_some ev
    obtain ⟨i, e3, ev⟩ := bind_some ev
    obtain ⟨j, e4, ev⟩ := bind_some ev
    cases ev
    cases da <;> simp [asInt] at e3
    cases db <;> simp [asInt] at e4
    subst e3 e4
    exact ⟨rfl, _, _, _, e1, e2, max2V G.calm⟩
/-- a built-in class as a value -/
theorem pe_ty (G : Good Γ k N sc X) {nm : Str} {n : String} (h : isTy sc nm e = true) (hin : nm ∈ bltNames) (hv : bootBuiltins nm = some (.type n)) (hn : nm ≠ "__name__" := by decide) (hdb : (nm == ("__debug__" : Str)) = false := by decide) : PE X e (tC (.ty n)) := by
  obtain ⟨pos, rfl, hg⟩ := isB_of (show isB sc nm e = true from h)
  exact pe_bltn (G.gl hg) (G.tab.blt _ hin) hv rfl hn hdb
theorem ty_star {nm : Str} (h : isTy sc nm e = true) (rest : List Expr) (env : Env) : starEach (e :: rest) env = (false, eval e env) :: starEach rest env := by
  obtain ⟨pos, rfl, hg⟩ := isB_of (show isB sc nm e = true from h)
  rfl
theorem n_isi (G : Good Γ k N sc X) {kd : Kd} (hk : kd ≠ .seq) (hb : isB sc "isinstance" f = true) (hca : chkE N a sc e = true) (ha : PE X e (tE Γ X.K a)) (ht : isTy sc (kdStr kd) g = true) : PE X (.Call f [e, g] [] pos) (tE Γ X.K (.isi kd a)) := by
  obtain ⟨pf, rfl, hg⟩ := isB_of hb
  refine peRun fun pins s σ H Q I ⟨O, P, δ, π, d, π', R, ev, ko, q⟩ => ?_
  simp only [evE] at ev
  obtain ⟨⟨da, π1⟩, e1, ev⟩ := bind_some ev
  cases ev
  obtain ⟨r, hr, hv⟩ := isiV (X := X) (x := da) hk
  have hT : PE X g (tC (.ty (kdName kd))) := by
    cases kd <;> first | exact absurd rfl hk | exact pe_ty G ht (by decide) (by decide +kernel)
  have hs2 := ty_star ht [] X.env
  have hs1 := star1 hca [g] X.env
  refine ⟨_, pe_callB hr (G.gl hg) (G.tab.blt _ (by decide)) (by decide +kernel) (pa_cons ha (pa_cons hT pa_nil hs2) hs1) (by decide) (by decide) hs1 (by rw [hs2]; rfl), ?_⟩
  exact low1 R e1 fun v H1 s1 p1 R1 r1 => hv _ H1 v Q r1.pk fun u H2 s2 r2 _ => q u H2 (s1.trans (SameX.of s2)) (p1.same s2) (flat_any _ _ rfl r2) fun _ => fresh_flat fun xs z => by cases z
theorem n_isiS (G : Good Γ k N sc X) {g' : Expr} {k2 : Nat} {p2 : Pos} (fl : Bool) (hb : isB sc "isinstance" f = true) (hca : chkE N a sc e = true) (ha : PE X e (tE Γ X.K a)) (ht : isTy sc (if fl then "list" else "tuple") g = true) (ht2 : isTy sc (if fl then "tuple" else "list") g' = true) :
    PE X (.Call f [e, .Tuple [g, g'] k2 p2] [] pos) (tE Γ X.K (.isi .seq a)) := by
  obtain ⟨pf, rfl, hg⟩ := isB_of hb
  refine peRun fun pins s σ H Q I ⟨O, P, δ, π, d, π', R, ev, ko, q⟩ => ?_
  simp only [evE] at ev
  obtain ⟨⟨da, π1⟩, e1, ev⟩ := bind_some ev
  cases ev
  obtain ⟨r, hr, hv⟩ := isiLV (X := X) (x := da) fl
  have hT : PE X g (tC (.ty (if fl then "list" else "tuple"))) := by
    cases fl <;> exact pe_ty G ht (by decide) (by decide +kernel)
  have hT2 : PE X g' (tC (.ty (if fl then "tuple" else "list"))) := by
    cases fl <;> exact pe_ty G ht2 (by decide) (by decide +kernel)
  have hs1 := star1 hca [.Tuple [g, g'] k2 p2] X.env
  refine ⟨_, pe_callB hr (G.gl hg) (G.tab.blt _ (by decide)) (by decide +kernel) (pa_cons ha (pa_cons (pe_tup (pa_cons hT (pa_cons hT2 pa_nil (ty_star ht2 _ _)) (ty_star ht _ _))) pa_nil rfl) hs1) (by decide) (by decide) hs1 rfl, ?_⟩
  refine low1 R e1 fun v H1 s1 p1 R1 r1 => ⟨by show 2 ≤ sizeLine; decide, fun tp htp => ?_⟩
  have su := same_upd (o := .tup [.ty (if fl then "list" else "tuple"), .ty (if fl then "tuple" else "list")]) htp
  have R2 := R1.next (SameX.of su) (p1.same su)
  refine hv _ _ v tp Q ?_ (r1.same su).pk fun u H2 s2 r2 _ => q u H2 ((s1.trans (SameX.of su)).trans (SameX.of s2)) ((p1.same su).same s2) (flat_any _ _ rfl r2) fun _ => fresh_flat fun xs z => by cases z
  rw [upd_same]
  cases fl <;> rfl
end
end Z
namespace Z
open PySem L2 PySem.Spec PyProof.Rows
section
variable {X : Cx} {Γ : Tab} {k : Nat} {N : List Str} {sc : Scope} {x a b c : E} {e f g : Expr} {t t' : TE} {pos p0 : Pos}
variable {O : Addr → Prop} {P : Option Addr} {σ : L2.St} {H H' : Hp} {δ : Dl} {π π' : Pot} {d : D} {v : V}
theorem asBool_some {d : D} {b : Bool} (h : asBool d = some b) : d = .bool b := by
  cases d <;> simp [asBool] at h
  rw [h]
theorem asInt_some {d : D} {b : Int} (h : asInt d = some b) : d = .int b := by
  cases d <;> simp [asInt] at h
  rw [h]
/-! argument lists -/
theorem a_nil : PA X [] (tEs Γ X.K .nil) := ⟨fun pos pins s σ H Q I ⟨O, P, δ, π, ds, π', R, ev, ko, q⟩ => by
  simp only [evEs] at ev
  cases ev
  exact pa_nil.run pos pins s σ H Q I (q [] H SameX.refl R.potAt .nil)⟩
theorem a_cons {xs : Es} {es : List Expr} (hc : chkE N x sc e = true) (he : PE X e (tE Γ X.K x)) (hs : PA X es (tEs Γ X.K xs)) : PA X (e :: es) (tEs Γ X.K (.cons x xs)) := ⟨fun pos pins s σ H Q I ⟨O, P, δ, π, ds, π', R, ev, ko, q⟩ => by
  simp only [evEs] at ev
  obtain ⟨⟨da, π1⟩, e1, ev⟩ := bind_some ev
  obtain ⟨⟨db, π2⟩, e2, ev⟩ := bind_some ev
  cases ev
  refine (pa_cons he hs (star1 hc _ _)).run pos pins s σ H Q I ⟨O, P, δ, π, da, π1, R, e1, ko.left, fun v H1 s1 p1 r1 _ => ⟨O, P, δ, π1, db, π2, R.next s1 p1, e2, ko.right, fun vs H2 s2 p2 r2 => ?_⟩⟩
  exact q (v :: vs) H2 (s1.trans s2) p2 (.cons (Rp.next (R.next s1 p1) s2 r1) r2)⟩
theorem n_tup {es : Es} {xs : List Expr} {k1 : Nat} (h : PA X xs (tEs Γ X.K es)) (hz : ∀ δ π d π', evEs Γ es δ π = some (d, π') → d.length ≤ sizeLine) : PE X (.Tuple xs k1 pos) (tE Γ X.K (.tup es)) := by
  refine peRun fun pins s σ H Q I ⟨O, P, δ, π, d, π', R, ev, ko, q⟩ => ⟨_, pe_tup h, ?_⟩
  simp only [evE] at ev
  obtain ⟨⟨ds, π1⟩, e1, ev⟩ := bind_some ev
  cases ev
  refine ⟨O, P, δ, π, ds, π1, R, e1, ko, fun vs H1 s1 p1 r1 => ⟨by rw [r1.length]; exact hz _ _ _ _ e1, fun p hp => ?_⟩⟩
  exact q _ _ (s1.trans (SameX.of (same_upd hp))) (p1.same (same_upd hp)) (new_tup hp r1) fun _ => fresh_flat fun _ z => by cases z
theorem n_lst {es : Es} {xs : List Expr} (h : PA X xs (tEs Γ X.K es)) (hz : ∀ δ π d π', evEs Γ es δ π = some (d, π') → d.length ≤ sizeLine) : PE X (.List xs pos) (tE Γ X.K (.lst es)) := by
  refine peRun fun pins s σ H Q I ⟨O, P, δ, π, d, π', R, ev, ko, q⟩ => ⟨_, pe_lst h, ?_⟩
  simp only [evE] at ev
  obtain ⟨⟨ds, π1⟩, e1, ev⟩ := bind_some ev
  cases ev
  refine ⟨O, P, δ, π, ds, π1, R, e1, ko, fun vs H1 s1 p1 r1 => ⟨by rw [r1.length]; exact hz _ _ _ _ e1, fun p hp => ?_⟩⟩
  have R1 := R.next s1 p1
  exact q _ _ (s1.trans (SameX.of (same_upd hp))) (p1.same (same_upd hp)) (new_lst R1.okO hp r1) fun _ => FreshV.back p1 s1 (fresh_lst hp r1)
theorem n_dnil : PE X (.Dict [] [] pos) (tE Γ X.K .dnil) := by
  refine peRun fun pins s σ H Q I ⟨O, P, δ, π, d, π', R, ev, ko, q⟩ => ⟨_, pe_dnewK, fun p hp => ?_⟩
  simp only [evE] at ev
  cases ev
  exact q _ _ (SameX.of (same_upd hp)) (R.potAt.same (same_upd hp)) (.dct upd_same) fun z => by cases z
/-! tests -/
theorem t_plain (h : PE X e (tE Γ X.K x)) (he : ∀ whole, isTrue e X.env whole = (do let v ← whole; standAt e.pos; holding [v] (truthy v))) : PT X e (tT Γ X.K x) :=
  ⟨fun pins s σ H Q I ⟨O, P, δ, π, b, π', R, ev, q⟩ => (pt_val h he).run pins s σ H Q I (low R ev fun v H1 s1 p1 r1 => by cases r1; exact ⟨b, rfl, q H1 s1 p1⟩)⟩
theorem t_not (h : PT X e (tT Γ X.K x)) : PT X (.UnaryOp .Not e pos) (tT Γ X.K (.not x)) :=
  ⟨fun pins s σ H Q I ⟨O, P, δ, π, b, π', R, ev, q⟩ => by
    simp only [evE] at ev
    obtain ⟨⟨da, π1⟩, e1, ev⟩ := bind_some ev
    obtain ⟨b, e2, ev⟩ := bind_some ev
    cases ev
    obtain rfl := asBool_some e2
    exact (pt_not h).run pins s σ H Q I ⟨O, P, δ, π, _, π1, R, e1, q⟩⟩
theorem t_cmp (G : Good Γ k N sc X) {o : Op} {p : CmpOp} (ho : opIs o p = true) (hcb : chkE N b sc f = true) (ha : PE X e (tE Γ X.K a)) (hb : PE X f (tE Γ X.K b)) : PT X (.Compare e [p] [f] pos) (tT Γ X.K (.cmp o a b)) := by
  obtain rfl := opIs_of ho
  refine ⟨fun pins s σ H Q I ⟨O, P, δ, π, d, π', R, ev, q⟩ => ?_⟩
  simp only [evE] at ev
  obtain ⟨⟨da, π1⟩, e1, ev⟩ := bind_some ev
  obtain ⟨⟨db, π2⟩, e2, ev⟩ := bind_some ev
  obtain ⟨c, e3, ev⟩ := bind_some ev
  cases ev
  obtain ⟨r, hr, hv⟩ := cmpV (X := X) G.room e3
  refine (pt_cmpR hr ha hb (behind_of hcb _)).run pins s σ H Q I (low2 R e1 e2 fun v w H' s1 p1 R1 r1 r2 => hv _ H' v w _ R1.okO r1.pk r2.pk fun u H2 s2 r3 _ => ?_)
  cases r3
  exact ⟨_, rfl, q H2 (s1.trans (SameX.of s2)) (p1.same s2)⟩
theorem t_cmp2 (G : Good Γ k N sc X) {o o2 : Op} {p p2 : CmpOp} (ho : opIs o p = true) (ho2 : opIs o2 p2 = true) (hcb : chkE N b sc f = true) (hcc : chkE N c sc g = true) (ha : PE X e (tE Γ X.K a)) (hb : PE X f (tE Γ X.K b)) (hg : PE X g (tE Γ X.K c)) :
    PT X (.Compare e [p, p2] [f, g] pos) (tT Γ X.K (.cmp2 o o2 a b c)) := by
  obtain rfl := opIs_of ho
  obtain rfl := opIs_of ho2
  refine ⟨fun pins s σ H Q I ⟨O, P, δ, π, d, π', R, ev, q⟩ => ?_⟩
  have hl : lastMarks [opOf o, opOf o2] [f, g] = false := behind_of hcc _
  simp only [evE] at ev
  obtain ⟨⟨da, π1⟩, e1, ev⟩ := bind_some ev
  obtain ⟨⟨db, π2⟩, e2, ev⟩ := bind_some ev
  obtain ⟨k1, e3, ev⟩ := bind_some ev
  obtain ⟨r, hr, hv⟩ := cmpV (X := X) G.room e3
  cases k1 with
  | false =>
    simp only [Bool.false_eq_true, if_false] at ev
    cases ev
    obtain ⟨r2, hr2, _⟩ : ∃ r2, OpR X (compareOp (opOf o2)) r2 ∧ True := ⟨fun _ _ _ _ => False, fun _ _ _ _ _ _ _ _ _ _ _ _ h => h.elim, trivial⟩
    refine (pt_chain hr hr2 ha hb hg hl).run pins s σ H Q I (low2 R e1 e2 fun v w H' s1 p1 R1 r1 r2 => hv _ H' v w _ R1.okO r1.pk r2.pk fun u H2 s2 r3 _ => ?_)
    cases r3
    exact ⟨false, rfl, _, rfl, q H2 (s1.trans (SameX.of s2)) (p1.same s2)⟩
  | true =>
    simp only [if_true] at ev
    obtain ⟨⟨dc, π3⟩, e4, ev⟩ := bind_some ev
    obtain ⟨k2, e5, ev⟩ := bind_some ev
    cases ev
    obtain ⟨r2, hr2, hv2⟩ := cmpV (X := X) G.room e5
    refine (pt_chain hr hr2 ha hb hg hl).run pins s σ H Q I (low2 R e1 e2 fun v w H' s1 p1 R1 ra rb => hv _ H' v w _ R1.okO ra.pk rb.pk fun u H2 s2 r3 _ => ?_)
    cases r3
    refine ⟨true, rfl, ?_⟩
    have R2 := R1.next (SameX.of s2) (p1.same s2)
    refine low1 R2 e4 fun w' H3 s3 p3 R3 rc => hv2 _ H3 w w' _ R3.okO (Rp.next R2 s3 (rb.same s2)).pk rc.pk fun u H4 s4 r4 _ => ?_
    cases r4
    exact ⟨_, rfl, q H4 (((s1.trans (SameX.of s2)).trans s3).trans (SameX.of s4)) (p3.same s4)⟩
def tAndP (Γ : Tab) (K : PySem.W.Frag) (es : Es) : TT := fun σ H Q => ∃ O P δ π b π', RS K O P σ H δ π ∧ evAnd Γ es δ π = some (.bool b, π') ∧ ∀ H', SameX P H H' → PotAt P H' π' → Q b H'
def tOrP (Γ : Tab) (K : PySem.W.Frag) (es : Es) : TT := fun σ H Q => ∃ O P δ π b π', RS K O P σ H δ π ∧ evOr Γ es δ π = some (.bool b, π') ∧ ∀ H', SameX P H H' → PotAt P H' π' → Q b H'
theorem w_and1 (h : PT X e (tT Γ X.K x)) : PW X (.BoolOp .And [e] pos) (tAndP Γ X.K (.cons x .nil)) := ⟨(pw_and1 h).run⟩
theorem w_or1 (h : PT X e (tT Γ X.K x)) : PW X (.BoolOp .Or [e] pos) (tOrP Γ X.K (.cons x .nil)) := ⟨(pw_or1 h).run⟩
theorem w_and {es : Es} {rest : List Expr} {y : E} (h : PT X e (tT Γ X.K x)) (hs : PW X (.BoolOp .And (f :: rest) pos) (tAndP Γ X.K (.cons y es))) : PW X (.BoolOp .And (e :: f :: rest) pos) (tAndP Γ X.K (.cons x (.cons y es))) :=
  ⟨fun wh pins s σ H Q I ⟨O, P, δ, π, b, π', R, ev, q⟩ => by
    simp only [evAnd] at ev
    obtain ⟨⟨da, π1⟩, e1, ev⟩ := bind_some ev
    obtain ⟨b1, e2, ev⟩ := bind_some ev
    obtain rfl := asBool_some e2
    refine (pw_and h hs).run wh pins s σ H Q I ⟨O, P, δ, π, _, π1, R, e1, fun H1 s1 p1 => ?_⟩
    cases b1 with
    | false =>
      simp only [Bool.false_eq_true, if_false] at ev ⊢
      cases ev
      exact q H1 s1 p1
    | true =>
      simp only [if_true] at ev ⊢
      exact ⟨O, P, δ, π1, b, π', R.next s1 p1, ev, fun H2 s2 p2 => q H2 (s1.trans s2) p2⟩⟩
theorem w_or {es : Es} {rest : List Expr} {y : E} (h : PT X e (tT Γ X.K x)) (hs : PW X (.BoolOp .Or (f :: rest) pos) (tOrP Γ X.K (.cons y es))) : PW X (.BoolOp .Or (e :: f :: rest) pos) (tOrP Γ X.K (.cons x (.cons y es))) :=
  ⟨fun wh pins s σ H Q I ⟨O, P, δ, π, b, π', R, ev, q⟩ => by
    simp only [evOr] at ev
    obtain ⟨⟨da, π1⟩, e1, ev⟩ := bind_some ev
    obtain ⟨b1, e2, ev⟩ := bind_some ev
    obtain rfl := asBool_some e2
    refine (pw_or h hs).run wh pins s σ H Q I ⟨O, P, δ, π, _, π1, R, e1, fun H1 s1 p1 => ?_⟩
    cases b1 with
    | true =>
      simp only [if_true] at ev ⊢
      cases ev
      exact q H1 s1 p1
    | false =>
      simp only [Bool.false_eq_true, if_false] at ev ⊢
      exact ⟨O, P, δ, π1, b, π', R.next s1 p1, ev, fun H2 s2 p2 => q H2 (s1.trans s2) p2⟩⟩
/-! and, or, not as values -/
theorem n_not (h : PE X e (tE Γ X.K x)) : PE X (.UnaryOp .Not e pos) (tE Γ X.K (.not x)) := by
  refine peRun fun pins s σ H Q I ⟨O, P, δ, π, d, π', R, ev, ko, q⟩ => ⟨_, pe_not h, ?_⟩
  simp only [evE] at ev
  obtain ⟨⟨da, π1⟩, e1, ev⟩ := bind_some ev
  obtain ⟨b, e2, ev⟩ := bind_some ev
  cases ev
  obtain rfl := asBool_some e2
  exact low1 R e1 fun v H1 s1 p1 R1 r1 => by cases r1; exact ⟨_, rfl, q _ H1 s1 p1 (.bl _) fun _ => fresh_flat fun _ z => by cases z⟩
def tAndE (Γ : Tab) (K : PySem.W.Frag) (es : Es) : TE := fun σ H Q => ∃ O P δ π d π', RS K O P σ H δ π ∧ evAnd Γ es δ π = some (d, π') ∧ KOk O σ δ (keepsS Γ es) ∧ ∀ v H', SameX P H H' → PotAt P H' π' → Rp K O H' v d → Q v H'
def tOrE (Γ : Tab) (K : PySem.W.Frag) (es : Es) : TE := fun σ H Q => ∃ O P δ π d π', RS K O P σ H δ π ∧ evOr Γ es δ π = some (d, π') ∧ KOk O σ δ (keepsS Γ es) ∧ ∀ v H', SameX P H H' → PotAt P H' π' → Rp K O H' v d → Q v H'
theorem v_one {op : BoolOp} (h : PE X e (tE Γ X.K x)) : PE X (.BoolOp op [e] pos) (tAndE Γ X.K (.cons x .nil)) :=
  peImp (pe_one h) fun σ H Q ⟨O, P, δ, π, d, π', R, ev, ko, q⟩ => ⟨O, P, δ, π, d, π', R, ev, ko.left, fun v H' s p r _ => q v H' s p r⟩
theorem v_oneO {op : BoolOp} (h : PE X e (tE Γ X.K x)) : PE X (.BoolOp op [e] pos) (tOrE Γ X.K (.cons x .nil)) :=
  peImp (pe_one h) fun σ H Q ⟨O, P, δ, π, d, π', R, ev, ko, q⟩ => ⟨O, P, δ, π, d, π', R, ev, ko.left, fun v H' s p r _ => q v H' s p r⟩
theorem v_and {es : Es} {rest : List Expr} {y : E} (h : PE X e (tE Γ X.K x)) (hs : PE X (.BoolOp .And (f :: rest) pos) (tAndE Γ X.K (.cons y es))) : PE X (.BoolOp .And (e :: f :: rest) pos) (tAndE Γ X.K (.cons x (.cons y es))) := by
  refine peImp (pe_and h hs) fun σ H Q ⟨O, P, δ, π, d, π', R, ev, ko, q⟩ => ?_
  simp only [evAnd] at ev
  obtain ⟨⟨da, π1⟩, e1, ev⟩ := bind_some ev
  obtain ⟨b1, e2, ev⟩ := bind_some ev
  obtain rfl := asBool_some e2
  refine low1 R e1 fun v H1 s1 p1 R1 r1 => ?_
  cases r1
  refine ⟨_, rfl, ?_⟩
  cases b1 with
  | false =>
    simp only [Bool.false_eq_true, if_false] at ev ⊢
    cases ev
    exact q _ H1 s1 p1 (.bl _)
  | true =>
    simp only [if_true] at ev ⊢
    exact ⟨O, P, δ, π1, d, π', R.next s1 p1, ev, ko.right, fun v H2 s2 p2 r2 => q v H2 (s1.trans s2) p2 r2⟩
theorem v_or {es : Es} {rest : List Expr} {y : E} (h : PE X e (tE Γ X.K x)) (hs : PE X (.BoolOp .Or (f :: rest) pos) (tOrE Γ X.K (.cons y es))) : PE X (.BoolOp .Or (e :: f :: rest) pos) (tOrE Γ X.K (.cons x (.cons y es))) := by
  refine peImp (pe_or h hs) fun σ H Q ⟨O, P, δ, π, d, π', R, ev, ko, q⟩ => ?_
  simp only [evOr] at ev
  obtain ⟨⟨da, π1⟩, e1, ev⟩ := bind_some ev
  obtain ⟨b1, e2, ev⟩ := bind_some ev
  obtain rfl := asBool_some e2
  refine low1 R e1 fun v H1 s1 p1 R1 r1 => ?_
  cases r1
  refine ⟨_, rfl, ?_⟩
  cases b1 with
  | true =>
    simp only [if_true] at ev ⊢
    cases ev
    exact q _ H1 s1 p1 (.bl _)
  | false =>
    simp only [Bool.false_eq_true, if_false] at ev ⊢
    exact ⟨O, P, δ, π1, d, π', R.next s1 p1, ev, ko.right, fun v H2 s2 p2 r2 => q v H2 (s1.trans s2) p2 r2⟩
theorem n_and {es : Es} {xs : List Expr} (h : PE X (.BoolOp .And xs pos) (tAndE Γ X.K es)) : PE X (.BoolOp .And xs pos) (tE Γ X.K (.all_ es)) :=
  peImp h fun σ H Q ⟨O, P, δ, π, d, π', R, ev, ko, q⟩ => ⟨O, P, δ, π, d, π', R, ev, ko, fun v H' s p r => q v H' s p r fun z => by cases z⟩
theorem n_or {es : Es} {xs : List Expr} (h : PE X (.BoolOp .Or xs pos) (tOrE Γ X.K es)) : PE X (.BoolOp .Or xs pos) (tE Γ X.K (.any_ es)) :=
  peImp h fun σ H Q ⟨O, P, δ, π, d, π', R, ev, ko, q⟩ => ⟨O, P, δ, π, d, π', R, ev, ko, fun v H' s p r => q v H' s p r fun z => by cases z⟩
theorem n_ite (hc : PT X g (tT Γ X.K c)) (ha : PE X e (tE Γ X.K a)) (hb : PE X f (tE Γ X.K b)) : PE X (.IfExp g e f pos) (tE Γ X.K (.ite c a b)) := by
  refine peRun fun pins s σ H Q I ⟨O, P, δ, π, d, π', R, ev, ko, q⟩ => ⟨_, pe_ifExp hc ha hb, ?_⟩
  simp only [evE] at ev
  obtain ⟨⟨da, π1⟩, e1, ev⟩ := bind_some ev
  obtain ⟨b1, e2, ev⟩ := bind_some ev
  obtain rfl := asBool_some e2
  refine ⟨O, P, δ, π, _, π1, R, e1, fun H1 s1 p1 => ?_⟩
  cases b1 with
  | true =>
    simp only [if_true] at ev ⊢
    exact ⟨O, P, δ, π1, d, π', R.next s1 p1, ev, ko.left, fun v H2 s2 p2 r2 _ => q v H2 (s1.trans s2) p2 r2 fun z => by cases z⟩
  | false =>
    simp only [Bool.false_eq_true, if_false] at ev ⊢
    exact ⟨O, P, δ, π1, d, π', R.next s1 p1, ev, ko.right, fun v H2 s2 p2 r2 _ => q v H2 (s1.trans s2) p2 r2 fun z => by cases z⟩
theorem t_ite (hc : PT X g (tT Γ X.K c)) (ha : PT X e (tT Γ X.K a)) (hb : PT X f (tT Γ X.K b)) : PT X (.IfExp g e f pos) (tT Γ X.K (.ite c a b)) :=
  ⟨fun pins s σ H Q I ⟨O, P, δ, π, d, π', R, ev, q⟩ => by
    simp only [evE] at ev
    obtain ⟨⟨da, π1⟩, e1, ev⟩ := bind_some ev
    obtain ⟨b1, e2, ev⟩ := bind_some ev
    obtain rfl := asBool_some e2
    show wpAny _ _ (do if ← isTrue g X.env (eval g X.env) then isTrue e X.env (eval e X.env) else isTrue f X.env (eval f X.env)) _ _ s
    refine wpAny_bind (thn (hc.run pins s σ H (fun b' H1 => b' = b1 ∧ SameX P H H1 ∧ PotAt P H1 π1) I ⟨O, P, δ, π, _, π1, R, e1, fun H1 s1 p1 => ⟨rfl, s1, p1⟩⟩) fun b' s1 ⟨H1, I1, hb', s1', p1⟩ => ?_)
    subst hb'
    cases b' with
    | true =>
      simp only [if_true] at ev ⊢
      exact ha.run pins s1 σ H1 Q I1 ⟨O, P, δ, π1, d, π', R.next s1' p1, ev, fun H2 s2 p2 => q H2 (s1'.trans s2) p2⟩
    | false =>
      simp only [Bool.false_eq_true, if_false] at ev ⊢
      exact hb.run pins s1 σ H1 Q I1 ⟨O, P, δ, π1, d, π', R.next s1' p1, ev, fun H2 s2 p2 => q H2 (s1'.trans s2) p2⟩⟩
end
end Z
namespace Z
open PySem L2 PySem.Spec PyProof.Rows
section
variable {X : Cx} {Γ : Tab} {k : Nat} {N : List Str} {sc : Scope} {x a b c : E} {e f g : Expr} {t t' : TE} {pos p0 : Pos}
variable {O : Addr → Prop} {P : Option Addr} {σ : L2.St} {H H' : Hp} {δ : Dl} {π π' : Pot} {d : D} {v : V}
theorem plain_ix (h : chkE N x sc e = true) : PlainIx e := by
  have key : ∀ l m s p, chkE N x sc (.Slice l m s p) = false := fun l m s p => by
    cases x with
    | isi k a => cases k <;> rfl
    | _ => rfl
  cases e with
  | Slice l m s p => rw [key] at h; cases h
  | _ => exact fun _ _ => rfl
theorem n_ix (hc : chkE N b sc f = true) (ha : PE X e (tP Γ X.K a)) (hb : PE X f (tE Γ X.K b)) : PE X (.Subscript e f pos) (tE Γ X.K (.ix a b)) := by
  refine peRun fun pins s σ H Q I ⟨O, P, δ, π, d, π', R, ev, ko, q⟩ => ?_
  simp only [evE] at ev
  obtain ⟨⟨da, π1⟩, e1, ev⟩ := bind_some ev
  obtain ⟨⟨db, π2⟩, e2, ev⟩ := bind_some ev
  obtain ⟨z, e3, ev⟩ := bind_some ev
  cases ev
  have key : ∀ (xs : List D) (i : Int), items da = some xs → db = .int i → L2.atI xs i = some d → ∃ r, IxR X r ∧ tOp r (tP Γ X.K a) (tE Γ X.K b) σ H Q := fun xs i h1 h2 h3 => by
    subst h2
    have fin : ∀ {p : Addr} {vs : List V} {v w : V} {H2 : Hp}, SameX P H H2 → PotAt P H2 π2 → RpAll X.K O H2 vs xs → ∃ u, L2.atI vs i = some u ∧ Q u H2 := fun s p r => by
      obtain ⟨u, h4, h5⟩ := r.atI h3
      exact ⟨u, h4, q u _ s p h5 fun z => by cases z⟩
    cases da with
    | list ys =>
      cases h1
      refine ⟨_, ix_list, peek1 R e1 ko fun v H1 s1 p1 R1 r1 n1 => low1 R1 e2 fun w H2 s2 p2 R2 r2 => ?_⟩
      cases r2
      obtain ⟨p, vs, rfl, h5, h6⟩ := Pk.next R1 s2 n1 r1
      obtain ⟨u, h7, h8⟩ := fin (p := p) (v := .non) (w := .non) (s1.trans s2) p2 h6
      exact ⟨p, vs, i, u, rfl, rfl, SqL.of h5, h7, h8⟩
    | tuple ys =>
      cases h1
      refine ⟨_, ix_tup, peek1 R e1 ko fun v H1 s1 p1 R1 r1 n1 => low1 R1 e2 fun w H2 s2 p2 R2 r2 => ?_⟩
      cases r2
      obtain ⟨p, vs, rfl, h6, h5 | h5⟩ := (Pk.next R1 s2 n1 r1).seq (ds := xs) rfl
      · cases h5.1
      obtain ⟨u, h7, h8⟩ := fin (p := p) (v := .non) (w := .non) (s1.trans s2) p2 h6
      exact ⟨p, vs, i, u, rfl, rfl, h5.2, h7, h8⟩
    | _ => cases h1
  have : ∃ r, IxR X r ∧ tOp r (tP Γ X.K a) (tE Γ X.K b) σ H Q := by
    cases da <;> cases db <;> first | exact key _ _ rfl rfl e3 | cases e3
  obtain ⟨r, hr, rd⟩ := this
  exact ⟨_, pe_ix hr ha hb (plain_ix hc), rd⟩
/-! slices -/
def tOo (Γ : Tab) (K : PySem.W.Frag) (x : Oe) : L2.St → Hp → (Option Int → Hp → Prop) → Prop := fun σ H Q => ∃ O P δ π i π', RS K O P σ H δ π ∧ evO Γ x δ π = some (i, π') ∧ ∀ H', SameX P H H' → PotAt P H' π' → Q i H'
theorem o_no : PO X none (tOo Γ X.K .no) := ⟨fun pins s σ H Q I ⟨O, P, δ, π, i, π', R, ev, q⟩ => by
  simp only [evO] at ev
  cases ev
  exact po_none.run pins s σ H Q I (q H SameX.refl R.potAt)⟩
theorem o_yes (h : PE X e (tE Γ X.K x)) : PO X (some e) (tOo Γ X.K (.yes x)) := ⟨fun pins s σ H Q I ⟨O, P, δ, π, i, π', R, ev, q⟩ => by
  simp only [evO] at ev
  obtain ⟨⟨da, π1⟩, e1, ev⟩ := bind_some ev
  obtain ⟨j, e2, ev⟩ := bind_some ev
  split at ev
  · cases ev
    obtain rfl := asInt_some e2
    exact (po_some h).run pins s σ H Q I (low1 R e1 fun v H1 s1 p1 R1 r1 => by cases r1; exact ⟨_, rfl, q H1 s1 p1⟩)
  · cases ev⟩
theorem n_sl {lo hi : Oe} {l m : Option Expr} {p2 : Pos} (ha : PE X e (tP Γ X.K a)) (hl : PO X l (tOo Γ X.K lo)) (hm : PO X m (tOo Γ X.K hi)) : PE X (.Subscript e (.Slice l m none p2) pos) (tE Γ X.K (.sl a lo hi)) := by
  refine peRun fun pins s σ H Q I ⟨O, P, δ, π, d, π', R, ev, ko, q⟩ => ?_
  simp only [evE] at ev
  obtain ⟨⟨da, π1⟩, e1, ev⟩ := bind_some ev
  obtain ⟨⟨i, π2⟩, e2, ev⟩ := bind_some ev
  obtain ⟨⟨j, π3⟩, e3, ev⟩ := bind_some ev
  obtain ⟨z, e4, ev⟩ := bind_some ev
  cases ev
  cases da with
  | list xs =>
    cases e4
    refine ⟨_, pe_slice sl_list ha hl hm, peek1 R e1 ko fun v H1 s1 p1 R1 r1 n1 => ⟨O, P, δ, π1, i, π2, R1, e2, fun H2 s2 p2 => ⟨O, P, δ, π2, j, π3, R1.next s2 p2, e3, fun H3 s3 p3 => ?_⟩⟩⟩
    have s13 := s2.trans s3
    obtain ⟨p, vs, rfl, h5, h6⟩ := Pk.next R1 s13 n1 r1
    refine ⟨p, vs, rfl, SqL.of h5, fun p' hp => ?_⟩
    have R3 := R1.next s13 p3
    exact q _ _ ((s1.trans s13).trans (SameX.of (same_upd hp))) (p3.same (same_upd hp)) (new_lst R3.okO hp (h6.cut i j)) fun _ => FreshV.back p3 (s1.trans s13) (fresh_lst hp (h6.cut i j))
  | tuple xs =>
    cases e4
    refine ⟨_, pe_slice sl_tupA ha hl hm, peek1 R e1 ko fun v H1 s1 p1 R1 r1 n1 => ⟨O, P, δ, π1, i, π2, R1, e2, fun H2 s2 p2 => ⟨O, P, δ, π2, j, π3, R1.next s2 p2, e3, fun H3 s3 p3 => ?_⟩⟩⟩
    have s13 := s2.trans s3
    obtain ⟨p, vs, rfl, h6, h5 | h5⟩ := (Pk.next R1 s13 n1 r1).seq (ds := xs) rfl
    · cases h5.1
    have hcut := h6.cut i j
    refine ⟨p, vs, rfl, h5.2, fun hw => ?_, fun _ p' hp => ?_⟩
    · refine q _ _ (s1.trans s13) p3 (.tup h5.2 ?_) fun _ => fresh_flat fun _ z => by cases z
      have e : cutL xs i j = xs := by
        unfold cutL
        rw [← h6.length, hw.1, hw.2, List.drop_zero, Nat.sub_zero, h6.length, List.take_length]
      rw [e]; exact h6
    · exact q _ _ ((s1.trans s13).trans (SameX.of (same_upd hp))) (p3.same (same_upd hp)) (new_tup hp hcut) fun _ => fresh_flat fun _ z => by cases z
  | _ => cases e4
/-! the pot, the script -/
theorem n_pot0 (G : Good Γ k N sc X) {p : Nat} (h : isNm N sc p e = true) (hf : isC 0 f = true) : PE X (.Subscript e f pos) (tE Γ X.K (.pot0 p)) := by
  obtain ⟨k1, p1, rfl⟩ := isC_of hf
  refine peRun fun pins s σ H Q I ⟨O, P, δ, π, d, π', R, ev, ko, q⟩ => ⟨_, pe_ix ix_list (pe_nm G h) pe_int (fun _ _ => rfl), ?_⟩
  simp only [evE] at ev
  split at ev
  · rename_i xy h1
    cases ev
    obtain ⟨ad, hP, h2⟩ := R.pot p h1
    obtain ⟨_, i, j, hxy, h3⟩ := R.at_ ad hP
    cases hxy
    exact ⟨_, h2, ad, _, 0, .int i, rfl, rfl, SqL.of h3, rfl, q _ H SameX.refl R.potAt (.int _) fun z => by cases z⟩
  · cases ev
theorem n_pot1 (G : Good Γ k N sc X) {p : Nat} (h : isNm N sc p e = true) (hf : isC 1 f = true) : PE X (.Subscript e f pos) (tE Γ X.K (.pot1 p)) := by
  obtain ⟨k1, p1, rfl⟩ := isC_of hf
  refine peRun fun pins s σ H Q I ⟨O, P, δ, π, d, π', R, ev, ko, q⟩ => ⟨_, pe_ix ix_list (pe_nm G h) pe_int (fun _ _ => rfl), ?_⟩
  simp only [evE] at ev
  split at ev
  · rename_i xy h1
    cases ev
    obtain ⟨ad, hP, h2⟩ := R.pot p h1
    obtain ⟨_, i, j, hxy, h3⟩ := R.at_ ad hP
    cases hxy
    exact ⟨_, h2, ad, _, 1, .int j, rfl, rfl, SqL.of h3, rfl, q _ H SameX.refl R.potAt (.int _) fun z => by cases z⟩
  · cases ev
theorem n_slen (G : Good Γ k N sc X) {p : Nat} (hb : isB sc "len" f = true) (h : isNm N sc p e = true) : PE X (.Call f [e] [] pos) (tE Γ X.K (.slen p)) := by
  obtain ⟨pf, rfl, hg⟩ := isB_of hb
  have hst := starNm h [] X.env
  refine peRun fun pins s σ H Q I ⟨O, P, δ, π, d, π', R, ev, ko, q⟩ => ⟨_, pe_callB call_len (G.gl hg) (G.tab.blt _ (by decide)) PySem.boot_len (pa_cons (pe_nm G h) pa_nil hst) (by decide) (by decide) hst rfl, ?_⟩
  simp only [evE] at ev
  split at ev
  · rename_i ns h1
    cases ev
    obtain ⟨ad, h2, h3⟩ := R.scr p ns h1
    refine ⟨_, h2, _, ns.length, rfl, .inl ⟨_, h3.seq, by rw [List.length_map]⟩, q _ H SameX.refl R.potAt (.int _) fun z => by cases z⟩
  · cases ev
theorem n_six (G : Good Γ k N sc X) {p : Nat} (h : isNm N sc p e = true) (hc : chkE N a sc f = true) (ha : PE X f (tE Γ X.K a)) : PE X (.Subscript e f pos) (tE Γ X.K (.six p a)) := by
  refine peRun fun pins s σ H Q I ⟨O, P, δ, π, d, π', R, ev, ko, q⟩ => ⟨_, pe_ix ix_list (pe_nm G h) ha (plain_ix hc), ?_⟩
  simp only [evE] at ev
  obtain ⟨⟨da, π1⟩, e1, ev⟩ := bind_some ev
  obtain ⟨i, e2, ev⟩ := bind_some ev
  obtain rfl := asInt_some e2
  split at ev
  · rename_i ns h1
    obtain ⟨z, e3, ev⟩ := bind_some ev
    cases ev
    obtain ⟨ad, h2, h3⟩ := R.scr p ns h1
    refine ⟨_, h2, low1 R e1 fun w H1 s1 p1 R1 r1 => ?_⟩
    cases r1
    obtain ⟨ad', h2', h3'⟩ := R1.scr p ns h1
    rw [h2] at h2'; cases h2'
    refine ⟨ad, _, i, .int z, rfl, rfl, h3'.seq, ?_, q _ H1 s1 p1 (.int _) fun z => by cases z⟩
    have e3' : L2.atI ns i = some z := e3
    unfold L2.atI at e3' ⊢
    rw [List.length_map]
    cases hh : ixN ns.length i with
    | none => rw [hh] at e3'; cases e3'
    | some j =>
      rw [hh] at e3'
      show (ns.map V.int)[j]? = some (.int z)
      rw [List.getElem?_map, show ns[j]? = some z from e3']; rfl
  · cases ev
end
end Z
namespace Z
open PySem L2 PySem.Spec PyProof.Rows
section
variable {X : Cx} {Γ : Tab} {k : Nat} {N : List Str} {sc : Scope} {x a b c : E} {e f g : Expr} {t t' : TE} {pos p0 : Pos}
variable {O : Addr → Prop} {P : Option Addr} {σ : L2.St} {H H' : Hp} {δ : Dl} {π π' : Pot} {d : D} {v : V}
/-- one new object more is kept apart -/
theorem RS.more {K : PySem.W.Frag} {p : Addr} {o : List V} {H1 : Hp} (R : RS K O P σ H δ π) (hp : H p = none) (s : SameX P H H1) (q : PotAt P H1 π') (ho : H1 p = some (.lst o)) : RS K (fun a => O a ∨ a = p) P σ H1 δ π' := by
  have hP : P ≠ some p := fun z => by obtain ⟨_, _, _, _, e⟩ := R.at_ p z; rw [hp] at e; cases e
  have fr : Frm (fun a => O a ∨ a = p) H H1 := frm_of (fun c e => ⟨.inl (R.at_ c e).1, let ⟨_, _, _, _, h⟩ := R.at_ c e; ⟨_, h⟩⟩) s
  exact {
    len := R.len
    val := fun i d e => let ⟨v, h1, h2⟩ := R.val i d e; ⟨v, h1, Rp.frame fr _ _ (Rp.avoid hp _ _ h2)⟩
    own := fun i d e => let ⟨a, vs, ds, h0, h1, h2, h3, h4⟩ := R.own i d e; ⟨a, vs, ds, h0, h1, s a _ h4 h2, RpAll.frame fr _ _ (RpAll.avoid hp _ _ h3), h4⟩
    pot := R.pot
    scr := (R.next s q).scr
    at_ := fun c e => ⟨.inl (R.at_ c e).1, q c e⟩
    in_ := fun a h => by
      rcases h with h | rfl
      · exact (R.next s q).in_ a h
      · exact ⟨o, ho⟩ }
theorem chkEs_len : ∀ {es : Es} {xs : List Expr}, chkEs N es sc xs = true → ∀ {δ π ds π'}, evEs Γ es δ π = some (ds, π') → ds.length = xs.length
  | .nil, [], _, δ, π, ds, π', ev => by simp only [evEs] at ev; cases ev; rfl
  | .nil, _ :: _, h, _, _, _, _, _ => by simp [chkEs] at h
  | .cons _ _, [], h, _, _, _, _, _ => by simp [chkEs] at h
  | .cons e es, x :: xs, h, δ, π, ds, π', ev => by
    simp only [chkEs, Bool.and_eq_true] at h
    simp only [evEs] at ev
    obtain ⟨⟨da, π1⟩, e1, ev⟩ := bind_some ev
    obtain ⟨⟨db, π2⟩, e2, ev⟩ := bind_some ev
    cases ev
    simp [chkEs_len (es := es) h.2 e2]
theorem n_call (G : Good Γ k N sc X) {y : Str} {es : Es} {xs : List Expr} (h1 : glB sc y = true) (h2 : nameOk y = true) (hc : chkEs N es sc xs = true) (ha : PA X xs (tEs Γ X.K es)) : PE X (.Call (.Name y p0) xs [] pos) (tE Γ X.K (.call y es)) := by
  refine peRun fun pins s σ H Q I ⟨O, P, δ, π, d, π', R, ev, ko, q⟩ => ?_
  simp only [evE] at ev
  obtain ⟨g, eg, ev⟩ := bind_some ev
  obtain ⟨⟨ds, π1⟩, e1, ev⟩ := bind_some ev
  obtain ⟨z, e2, ev⟩ := bind_some ev
  cases ev
  obtain ⟨fa, fd, ps, hm, hk, F, hb, har, _⟩ := G.tab.fn y g eg
  have rd : tEs Γ X.K es σ H fun vs H1 => spF X.K ps.length g (Γ.fresh y) vs H1 Q E0 := ⟨O, P, δ, π, ds, π1, R, e1, ko, fun vs H1 s1 p1 r1 => by
    refine ⟨by rw [r1.length]; exact har _ _ e2, O, ds, _, (R.next s1 p1).okO, r1, e2, fun v H2 s2 r2 fr => ?_⟩
    exact q v H2 (s1.trans (SameX.of s2)) (p1.same s2) r2 fun z => FreshV.back p1 s1 (fr z)⟩
  cases xs with
  | nil =>
    cases es with
    | cons e es => simp [chkEs] at hc
    | nil =>
      refine ⟨_, pe_callG0 F G.room G.guards (G.gl h1) hm hk hb (nameOk_of h2).1, ?_⟩
      simp only [evEs] at e1
      cases e1
      exact ⟨by rw [← har _ _ e2]; rfl, O, [], _, R.okO, .nil, e2, fun v H2 s2 r2 fr => q v H2 (SameX.of s2) (R.potAt.same s2) r2 fr⟩
  | cons e xs =>
    cases es with
    | nil => simp [chkEs] at hc
    | cons e' es =>
      have hc' := hc
      simp only [chkEs, Bool.and_eq_true] at hc'
      exact ⟨_, pe_callG F G.room G.guards (G.gl h1) hm hk hb ha (nameOk_of h2).1 (star1 hc'.1 _ _) (star0 hc'.2 _ _), rd⟩
/-! keywords -/
theorem kw_names : ∀ {ks : List Str} {kws : List Keyword}, chkKw ks kws = true → ∀ (pos : Pos) (env : Env), (backToKw pos (keywordEach kws env)).all (·.1.isSome) = true ∧ (backToKw pos (keywordEach kws env)).filterMap (·.1) = ks ∧ (backToKw pos (keywordEach kws env)).any (·.1.isNone) = false
  | [], [], _, _, _ => ⟨rfl, rfl, rfl⟩
  | [], _ :: _, h, _, _ => by simp [chkKw] at h
  | _ :: _, [], h, _, _ => by simp [chkKw] at h
  | k :: ks, ⟨none, _, _⟩ :: kws, h, _, _ => by simp [chkKw] at h
  | k :: ks, ⟨some n, v, kp⟩ :: kws, h, pos, env => by
    simp only [chkKw, Bool.and_eq_true, beq_iff_eq] at h
    obtain ⟨rfl, h⟩ := h
    obtain ⟨i1, i2, i3⟩ := kw_names h pos env
    simp only [backToKw, keywordEach, List.map_cons, List.all_cons, List.filterMap_cons, List.any_cons] at i1 i2 i3 ⊢
    exact ⟨by simpa using i1, by rw [i2], by simpa using i3⟩
theorem k_nil : PK X [] (tEs Γ X.K .nil) := ⟨fun pos pins s σ H Q I ⟨O, P, δ, π, ds, π', R, ev, ko, q⟩ => by
  simp only [evEs] at ev
  cases ev
  exact pk_nil.run pos pins s σ H Q I (q [] H SameX.refl R.potAt .nil)⟩
theorem k_cons {xs : Es} {kws : List Keyword} {nm : Option Str} {kp : Pos} (he : PE X e (tE Γ X.K x)) (hs : PK X kws (tEs Γ X.K xs)) : PK X (⟨nm, e, kp⟩ :: kws) (tEs Γ X.K (.cons x xs)) := ⟨fun pos pins s σ H Q I ⟨O, P, δ, π, ds, π', R, ev, ko, q⟩ => by
  simp only [evEs] at ev
  obtain ⟨⟨da, π1⟩, e1, ev⟩ := bind_some ev
  obtain ⟨⟨db, π2⟩, e2, ev⟩ := bind_some ev
  cases ev
  refine (pk_cons he hs).run pos pins s σ H Q I ⟨O, P, δ, π, da, π1, R, e1, ko.left, fun v H1 s1 p1 r1 _ => ⟨O, P, δ, π1, db, π2, R.next s1 p1, e2, ko.right, fun vs H2 s2 p2 r2 => ?_⟩⟩
  exact q (v :: vs) H2 (s1.trans s2) p2 (.cons (Rp.next (R.next s1 p1) s2 r1) r2)⟩
theorem RpAll.pick {K : PySem.W.Frag} {vs : List V} {ds : List D} (r : RpAll K O H vs ds) : ∀ perm : List Nat, RpAll K O H (perm.map fun i => vs.getD i .non) (perm.map fun i => ds.getD i .none)
  | [] => .nil
  | i :: is => .cons (by
      cases h : ds[i]? with
      | some d => obtain ⟨v, h1, h2⟩ := r.get h; simp [List.getD, h, h1, h2]
      | none =>
        have : vs[i]? = none := List.getElem?_eq_none_iff.mpr (by rw [r.length]; exact List.getElem?_eq_none_iff.mp h)
        simp only [List.getD, h, this, Option.getD_none]
        exact .non) (RpAll.pick r is)
theorem n_callk (G : Good Γ k N sc X) {y : Str} {ks : List Str} {perm : List Nat} {ps es : Es} {xs : List Expr} {kws : List Keyword} (h1 : glB sc y = true) (h2 : nameOk y = true) (hkw : chkKw ks kws = true) (hc : chkEs N ps sc xs = true)
    (ha : PA X xs (tEs Γ X.K ps)) (hb : PK X kws (tEs Γ X.K es)) : PE X (.Call (.Name y p0) xs kws pos) (tE Γ X.K (.callk y ks perm ps es)) := by
  refine peRun fun pins s σ H Q I ⟨O, P, δ, π, d, π', R, ev, ko, q⟩ => ?_
  simp only [evE] at ev
  obtain ⟨g, eg, ev⟩ := bind_some ev
  obtain ⟨⟨ds, π1⟩, e1, ev⟩ := bind_some ev
  obtain ⟨⟨dk, π2⟩, e2, ev⟩ := bind_some ev
  split at ev
  rotate_left
  · cases ev
  rename_i hh
  simp only [Bool.and_eq_true, decide_eq_true_eq] at hh
  obtain ⟨z, e3, ev⟩ := bind_some ev
  cases ev
  obtain ⟨fa, fd, ps', hm, hk, F, hbd, har, hkb⟩ := G.tab.fn y g eg
  obtain ⟨n1, n2, n3⟩ := kw_names hkw pos X.env
  have hK := hkb ks perm hh.1.1
  have pl := (har _ _ e3)
  have rd : tEs Γ X.K ps σ H fun vs H1 => tEs Γ X.K es σ H1 fun zs H2 => (vs ++ zs).length = perm.length ∧ zs.length = ks.length ∧ spF X.K ps'.length g (Γ.fresh y) (perm.map fun i => (vs ++ zs).getD i .non) H2 Q E0 :=
    ⟨O, P, δ, π, ds, π1, R, e1, ko.left, fun vs H1 s1 p1 r1 => ⟨O, P, δ, π1, dk, π2, R.next s1 p1, e2, ko.right, fun zs H2 s2 p2 r2 => by
      have ra := (RpAll.next (R.next s1 p1) s2 r1).append r2
      refine ⟨by rw [ra.length]; exact hh.1.2, by rw [r2.length]; exact hh.2, by rw [List.length_map, ← pl, List.length_map], O, _, _, ((R.next s1 p1).next s2 p2).okO, ra.pick perm, e3, fun v H3 s3 r3 fr => ?_⟩
      exact q v H3 ((s1.trans s2).trans (SameX.of s3)) (p2.same s3) r3 fun z => FreshV.back p2 (s1.trans s2) (fr z)⟩⟩
  cases xs with
  | nil =>
    cases ps with
    | cons e es => simp [chkEs] at hc
    | nil =>
      refine ⟨_, pe_callGK0 F G.room G.guards (G.gl h1) hm hk hK hb n1 n2 (nameOk_of h2).1 (by rw [n3]; rfl), ?_⟩
      simp only [evEs] at e1
      cases e1
      refine ⟨O, P, δ, π, dk, π2, R, e2, ko.right, fun zs H2 s2 p2 r2 => ?_⟩
      refine ⟨by rw [r2.length]; exact hh.1.2, by rw [r2.length]; exact hh.2, by rw [List.length_map, ← pl, List.length_map], O, _, _, (R.next s2 p2).okO, r2.pick perm, e3, fun v H3 s3 r3 fr => ?_⟩
      exact q v H3 (s2.trans (SameX.of s3)) (p2.same s3) r3 fun z => FreshV.back p2 s2 (fr z)
  | cons e xs =>
    cases ps with
    | nil => simp [chkEs] at hc
    | cons e' es' =>
      have hc' := hc
      simp only [chkEs, Bool.and_eq_true] at hc'
      refine ⟨_, pe_callGK F G.room G.guards (G.gl h1) hm hk hK ha hb n1 n2 (nameOk_of h2).1 (star1 hc'.1 _ _) ?_, rd⟩
      have := star0 (es := .cons e' es') hc pos X.env
      rw [this, n3]; rfl
/-! defs that draw from the pot -/
theorem a_nm {p : Nat} {xs : List Expr} {t : TA} (G : Good Γ k N sc X) (h : isNm N sc p e = true) (ha : PA X xs t) : PA X (e :: xs) (tCons (tVar p) t) := pa_cons (pe_nm G h) ha (starNm h _ _)
theorem n_callp (G : Good Γ k N sc X) {y : Str} {p : Nat} {es : Es} {xs : List Expr} (h1 : glB sc y = true) (h2 : nameOk y = true) (hp : isNm N sc p e = true) (hc : chkEs N es sc xs = true) (ha : PA X xs (tEs Γ X.K es)) :
    PE X (.Call (.Name y p0) (e :: xs) [] pos) (tE Γ X.K (.callp y p es)) := by
  refine peRun fun pins s σ H Q I ⟨O, P, δ, π, d, π', R, ev, ko, q⟩ => ?_
  simp only [evE] at ev
  split at ev
  rotate_left
  · cases ev
  rename_i xy0 hpot
  obtain ⟨g, eg, ev⟩ := bind_some ev
  obtain ⟨⟨ds, π1⟩, e1, ev⟩ := bind_some ev
  simp only at ev
  split at ev
  rotate_left
  · cases ev
  rename_i xy
  obtain ⟨⟨z, xy'⟩, e2, ev⟩ := bind_some ev
  cases ev
  obtain ⟨fa, fd, ps, n, hm, hk, hn, F, hb, har⟩ := G.tab.pf y g eg
  obtain ⟨ad, rfl, h3⟩ := R.pot p hpot
  refine ⟨_, pe_callG F G.room G.guards (G.gl h1) hm hk hb (a_nm G hp ha) (nameOk_of h2).1 (starNm hp _ _) (star0 hc _ _), ?_⟩
  refine ⟨.ref ad, h3, O, some ad, δ, _, ds, _, R, e1, ko, fun vs H1 s1 p1 r1 => ?_⟩
  have R1 := R.next s1 p1
  obtain ⟨h4, i, j, e5, h5⟩ := R1.at_ ad rfl
  cases e5
  refine ⟨by rw [List.length_cons, r1.length, har _ _ _ e2], O, ad, vs, i, j, ds, z, xy'.1, xy'.2, rfl, h5, h4, R1.okO, r1, e2, fun v H2 s2 h6 r2 fr => ?_⟩
  refine q v H2 (s1.trans s2) (fun c e => ?_) r2 fun zz => FreshV.back p1 s1 (fr zz)
  cases e
  exact ⟨_, _, rfl, h6⟩
theorem n_calls (G : Good Γ k N sc X) {y : Str} {p : Nat} (h1 : glB sc y = true) (h2 : nameOk y = true) (hp : isNm N sc p e = true) (hc : chkE N a sc f = true) (ha : PE X f (tE Γ X.K a)) :
    PE X (.Call (.Name y p0) [e, f] [] pos) (tE Γ X.K (.calls y p a)) := by
  refine peRun fun pins s σ H Q I ⟨O, P, δ, π, d, π', R, ev, ko, q⟩ => ?_
  simp only [evE] at ev
  obtain ⟨g, eg, ev⟩ := bind_some ev
  obtain ⟨⟨da, π1⟩, e1, ev⟩ := bind_some ev
  obtain ⟨i, e2, ev⟩ := bind_some ev
  obtain rfl := asInt_some e2
  split at ev
  rotate_left
  · cases ev
  rename_i ns hs
  obtain ⟨⟨m, n⟩, e3, ev⟩ := bind_some ev
  cases ev
  obtain ⟨fa, fd, ps, hm, hk, F, hb⟩ := G.tab.sf y g eg
  have hst := star1 hc [] X.env
  refine ⟨_, pe_callG F G.room G.guards (G.gl h1) hm hk hb (a_nm G hp (pa_cons ha pa_nil hst)) (nameOk_of h2).1 (starNm hp _ _) (by rw [hst]; rfl), ?_⟩
  obtain ⟨ad, h3, h4⟩ := R.scr p ns hs
  refine ⟨_, h3, low1 R e1 fun v H1 s1 p1 R1 r1 => ?_⟩
  cases r1
  obtain ⟨ad', h3', h4'⟩ := R1.scr p ns hs
  rw [h3] at h3'; cases h3'
  refine ⟨rfl, ad, ns, i, m, n, rfl, h4', e3, fun p' H2 s2 hp' h5 => ?_⟩
  have R2 := R.next s1 p1
  exact q _ H2 (s1.trans (SameX.of s2)) (p1.same s2) (.lst h5 (R2.okO.not hp') (.cons (.int _) (.cons (.int _) .nil))) fun _ => FreshV.back p1 s1 fun xs e => by cases e; exact ⟨p', _, rfl, hp', h5, .cons (.int _) (.cons (.int _) .nil)⟩
end
end Z
/-! what is walked; targets; comprehensions -/
namespace Z
open PySem L2 PySem.Spec PyProof.Rows
section
variable {X : Cx} {Γ : Tab} {k : Nat} {N : List Str} {sc : Scope} {x a b c : E} {e f g tg : Expr} {t t' : TE} {pos p0 : Pos}
variable {O : Addr → Prop} {P : Option Addr} {σ : L2.St} {H H' : Hp} {δ : Dl} {π π' : Pot} {d : D} {v : V}
def SameW (W : Addr → Prop) (H H' : Hp) : Prop := ∀ b o, ¬ W b → H b = some o → H' b = some o
theorem SameX.w {W : Addr → Prop} (h : ∀ p, P = some p → W p) (s : SameX P H H') : SameW W H H' := fun b o n e => s b o (fun z => n (h b z)) e
theorem SameW.trans {W : Addr → Prop} {H1 : Hp} (a : SameW W H H1) (b : SameW W H1 H') : SameW W H H' := fun c o n e => b c o n (a c o n e)
mutual
theorem Rp.keepOut {K : PySem.W.Frag} {O' : Addr → Prop} (h : ∀ a, O' a → O a ∨ H a = none) : ∀ (d : D) (v : V), Rp K O H v d → Rp K O' H v d
  | .none, _, h => by cases h; exact .non
  | .bool b, _, h => by cases h; exact .bl b
  | .int i, _, h => by cases h; exact .int i
  | .str x, _, h => by cases h; exact .str x
  | .list ds, _, r => by
    cases r with
    | lst h1 h2 h3 => exact .lst h1 (fun z => (h _ z).elim h2 fun z => by rw [h1] at z; cases z) (RpAll.keepOut h ds _ h3)
  | .tuple ds, _, r => by
    cases r with
    | tup h1 h3 => exact .tup h1 (RpAll.keepOut h ds _ h3)
  | .dict _, _, r => by
    cases r with
    | dct h1 => exact .dct h1
theorem RpAll.keepOut {K : PySem.W.Frag} {O' : Addr → Prop} (h : ∀ a, O' a → O a ∨ H a = none) : ∀ (ds : List D) (vs : List V), RpAll K O H vs ds → RpAll K O' H vs ds
  | [], _, r => by cases r; exact .nil
  | d :: ds, _, r => by
    cases r with
    | cons h1 h2 => exact .cons (Rp.keepOut h d _ h1) (RpAll.keepOut h ds _ h2)
end
/-- an iterator that gives these data -/
def IterOk (K : PySem.W.Frag) (O W : Addr → Prop) (H' : Hp) (ds : List D) (J : L2.It) : Prop := ∃ G Y, Walk J ds.length G Y ∧ ∀ (O' : Addr → Prop) (H1 : Hp), (∀ a, O' a → O a ∨ H' a = none) → SameW W H' H1 → G H1 ∧
  ∀ i x H2, i < ds.length → Y i H1 x H2 → Same H1 H2 ∧ ∃ d, ds[i]? = some d ∧ Rp K O' H2 x d
structure WOk (O W : Addr → Prop) (P : Option Addr) (H : Hp) : Prop where
  pot : ∀ p, P = some p → W p
  sub : ∀ a, W a → O a
/-- items that stand -/
theorem items_on {K : PySem.W.Frag} {W O' : Addr → Prop} {H1 : Hp} {vs : List V} {ds : List D} (ok : OkO O H') (hs : ∀ a, W a → O a) (r : RpAll K O H' vs ds) (h : ∀ a, O' a → O a ∨ H' a = none) (s : SameW W H' H1) : RpAll K O' H1 vs ds := by
  have r1 : RpAll K (fun a => O a ∨ O' a) H' vs ds := RpAll.keepOut (fun a z => z.elim .inl (h a)) _ _ r
  refine RpAll.less (O := fun a => O a ∨ O' a) (fun a z => .inr z) _ _ (RpAll.frame (fun b o n e => s b o (fun w => ?_) e) _ _ r1)
  rcases n with n | n
  · exact n (.inl (hs b w))
  · obtain ⟨xs, e2⟩ := ok b (hs b w)
    rw [e] at e2; cases e2; exact n xs rfl
/-- a list or tuple to be walked: it does not change meanwhile -/
def tW (Γ : Tab) (K : PySem.W.Frag) (x : E) : TE := fun σ H Q => ∃ O W P δ π d π', RS K O P σ H δ π ∧ WOk O W P H ∧ evE Γ x δ π = some (d, π') ∧ KOk O σ δ (peeks Γ x) ∧ KOk W σ δ (keeps Γ x) ∧
  ∀ v H', SameX P H H' → PotAt P H' π' → Pk K O H' v d → (∀ a ds, v = .ref a → d = .list ds → ¬ W a) → Q v H'
theorem n_walk (G : Good Γ k N sc X) (h : chkE N x sc e = true) (hx : PE X e (tE Γ X.K x)) : PE X e (tW Γ X.K x) := by
  have other : (peeks Γ x = keeps Γ x) → PE X e (tW Γ X.K x) := fun pk => peImp hx fun σ H Q ⟨O, W, P, δ, π, d, π', R, wo, ev, ko, kw, q⟩ =>
    ⟨O, P, δ, π, d, π', R, ev, pk ▸ ko, fun v H' s p r _ => q v H' s p r.pk fun a ds e1 e2 z => by
      subst e1 e2
      cases r with
      | lst _ n _ => exact n (wo.sub _ z)⟩
  cases x with
  | var i =>
    have h' : isNm N sc i e = true := h
    refine peImp (pe_nm G h') fun σ H Q ⟨O, W, P, δ, π, d, π', R, wo, ev, ko, kw, q⟩ => ?_
    simp only [evE] at ev
    split at ev
    · rename_i d' h1
      cases ev
      obtain ⟨v, h2, r⟩ := R.val i d h1
      refine ⟨v, h2, q v H SameX.refl R.potAt r.pk fun a ds e1 e2 z => ?_⟩
      subst e1 e2
      cases r with
      | lst _ n _ => exact n (wo.sub _ z)
    · rename_i d' h1
      cases ev
      obtain ⟨p, vs, ds, rfl, h2, h3, h4, h5⟩ := R.own i d h1
      refine ⟨_, h2, q _ H SameX.refl R.potAt ⟨p, vs, rfl, h3, h4⟩ fun a _ e1 _ z => ?_⟩
      cases e1
      exact kw i (by simp [keeps]) _ _ h1 h2 z
    · cases ev
  | _ => exact other (by simp only [peeks, keeps])
/-- what is walked, its reading -/
def tI (Γ : Tab) (K : PySem.W.Frag) (x : It) : TI := fun σ H R => ∃ O W P δ π ds π', RS K O P σ H δ π ∧ WOk O W P H ∧ evI Γ x δ π = some (ds, π') ∧ KOk O σ δ (keepsI Γ x) ∧ KOk W σ δ (keepsF Γ x) ∧
  ∀ J H', SameX P H H' → PotAt P H' π' → IterOk K O W H' ds J → R J H'
theorem PI.run' {wi wi' : TI} (h : ∀ pins s σ H R, Inv X pins σ H s → wi' σ H R → ∃ wi, PI X tg e wi ∧ wi σ H R) : PI X tg e wi' := ⟨fun pins s σ H R I q => by
  obtain ⟨t, h1, h2⟩ := h pins s σ H R I q
  exact h1.run pins s σ H R I h2⟩
theorem i_seq (ha : PE X e (tW Γ X.K a)) : PI X tg e (tI Γ X.K (.seq a)) := by
  refine PI.run' (wi := fun _ _ _ => True) fun pins s σ H R I ⟨O, W, P, δ, π, ds, π', Rs, wo, ev, ko, kw, q⟩ => ?_
  simp only [evI] at ev
  obtain ⟨⟨da, π1⟩, e1, ev⟩ := bind_some ev
  obtain ⟨xs, e2, ev⟩ := bind_some ev
  cases ev
  cases da with
  | list ys =>
    cases e2
    refine ⟨_, pi_list ha, O, W, P, δ, π, _, π1, Rs, wo, e1, ko, kw, fun v H1 s1 p1 r1 n1 => ?_⟩
    obtain ⟨p, vs, rfl, h1, h2⟩ := r1
    have R1 := Rs.next s1 p1
    refine ⟨p, rfl, ⟨vs, SqL.of h1⟩, q _ H1 s1 p1 ⟨_, _, by rw [← h2.length]; exact walk_list (xs := vs), fun O' H2 ho sw => ?_⟩⟩
    refine ⟨SqL.of (sw p _ (n1 p _ rfl rfl) h1), fun i x H3 hi hy => ?_⟩
    obtain ⟨rfl, hx⟩ := hy
    obtain ⟨d, h3, h4⟩ := (items_on R1.okO wo.sub h2 ho sw).getV hx
    exact ⟨Same.refl _, d, h3, h4⟩
  | tuple ys =>
    cases e2
    refine ⟨_, pi_tup ha, O, W, P, δ, π, _, π1, Rs, wo, e1, ko, kw, fun v H1 s1 p1 r1 n1 => ?_⟩
    obtain ⟨p, vs, rfl, h2, h1 | h1⟩ := r1.seq (ds := ds) rfl
    · cases h1.1
    have R1 := Rs.next s1 p1
    refine ⟨p, rfl, ⟨vs, h1.2⟩, q _ H1 s1 p1 ⟨_, _, by rw [← h2.length]; exact walk_tup (xs := vs), fun O' H2 ho sw => ?_⟩⟩
    have fr : Frm W H1 H2 := fun b o n e => sw b o (fun w => by
      rcases n with n | n
      · exact n w
      · obtain ⟨xs, e3⟩ := R1.in_ b (wo.sub b w)
        rw [e] at e3; cases e3; exact n xs rfl) e
    refine ⟨fr.seqT h1.2, fun i x H3 hi hy => ?_⟩
    obtain ⟨rfl, hx⟩ := hy
    obtain ⟨d, h3, h4⟩ := (items_on R1.okO wo.sub h2 ho sw).getV hx
    exact ⟨Same.refl _, d, h3, h4⟩
  | _ => cases e2
theorem rngD_get {lo hi : Int} {i : Nat} (h : i < (rngD lo hi).length) : (rngD lo hi)[i]? = some (.int (lo + (i : Nat))) := by
  have h' : i < (hi - lo).toNat := by simpa [rngD] using h
  simp [rngD, h']
theorem rng_iter {K : PySem.W.Frag} {W : Addr → Prop} (lo hi : Int) : IterOk K O W H' (rngD lo hi) (Itr lo (hi - lo).toNat) := by
  refine ⟨_, _, by rw [show (rngD lo hi).length = (hi - lo).toNat by simp [rngD]]; exact walk_range, fun O' H1 _ _ => ⟨trivial, fun i x H2 hi hy => ?_⟩⟩
  obtain ⟨rfl, rfl⟩ := hy
  exact ⟨Same.refl _, _, rngD_get hi, .int _⟩
theorem i_rng (G : Good Γ k N sc X) (hb : isB sc "range" f = true) (hc : chkE N a sc e = true) (ha : PE X e (tE Γ X.K a)) : PI X tg (.Call f [e] [] pos) (tI Γ X.K (.rng a)) := by
  obtain ⟨pf, rfl, hg⟩ := isB_of hb
  have hst := star1 hc [] X.env
  refine PI.run' (wi := fun _ _ _ => True) fun pins s σ H R I ⟨O, W, P, δ, π, ds, π', Rs, wo, ev, ko, kw, q⟩ => ⟨_, pi_range1 (G.gl hg) (G.tab.blt _ (by decide)) (pa_cons ha pa_nil hst) hst, ?_⟩
  simp only [evI] at ev
  obtain ⟨⟨da, π1⟩, e1, ev⟩ := bind_some ev
  obtain ⟨i, e2, ev⟩ := bind_some ev
  obtain rfl := asInt_some e2
  split at ev
  · rename_i hb
    cases ev
    refine low1 Rs e1 fun v H1 s1 p1 R1 r1 => ?_
    cases r1
    refine ⟨i, rfl, by omega, by omega, q _ H1 s1 p1 ?_⟩
    have := rng_iter (K := X.K) (O := O) (W := W) (H' := H1) 0 i
    rwa [Int.sub_zero] at this
  · cases ev
theorem i_rng2 (G : Good Γ k N sc X) (hb : isB sc "range" f = true) (hca : chkE N a sc e = true) (hcb : chkE N b sc g = true) (ha : PE X e (tE Γ X.K a)) (hbb : PE X g (tE Γ X.K b)) : PI X tg (.Call f [e, g] [] pos) (tI Γ X.K (.rng2 a b)) := by
  obtain ⟨pf, rfl, hg⟩ := isB_of hb
  have h1 := star1 hca [g] X.env
  have h2 := star1 hcb [] X.env
  refine PI.run' (wi := fun _ _ _ => True) fun pins s σ H R I ⟨O, W, P, δ, π, ds, π', Rs, wo, ev, ko, kw, q⟩ => ⟨_, pi_range2 (G.gl hg) (G.tab.blt _ (by decide)) (pa_cons ha (pa_cons hbb pa_nil h2) h1) (by rw [h1, h2]; rfl) h2, ?_⟩
  simp only [evI] at ev
  obtain ⟨⟨da, π1⟩, e1, ev⟩ := bind_some ev
  obtain ⟨⟨db, π2⟩, e2, ev⟩ := bind_some ev
  obtain ⟨i, e3, ev⟩ := bind_some ev
  obtain ⟨j, e4, ev⟩ := bind_some ev
  split at ev
  · rename_i hb
    cases ev
    obtain rfl := asInt_some e3
    obtain rfl := asInt_some e4
    refine low2 Rs e1 e2 fun v w H1 s1 p1 R1 r1 r2 => ?_
    cases r1; cases r2
    exact ⟨i, j, rfl, by omega, q _ H1 s1 p1 (rng_iter i j)⟩
  · cases ev
theorem i_enum (G : Good Γ k N sc X) {elts : List Expr} {kk : Nat} {tpos : Pos} (hb : isB sc "enumerate" f = true) (hc : chkE N a sc e = true) (ha : PE X e (tW Γ X.K a)) : PI X (.Tuple elts kk tpos) (.Call f [e] [] pos) (tI Γ X.K (.enum a)) := by
  obtain ⟨pf, rfl, hg⟩ := isB_of hb
  have hst := star1 hc [] X.env
  refine PI.run' (wi := fun _ _ _ => True) fun pins s σ H R I ⟨O, W, P, δ, π, ds, π', Rs, wo, ev, ko, kw, q⟩ => ⟨_, pi_enum (G.gl hg) (G.tab.blt _ (by decide)) (pa_cons ha pa_nil hst) hst, ?_⟩
  simp only [evI] at ev
  obtain ⟨⟨da, π1⟩, e1, ev⟩ := bind_some ev
  cases da with
  | list ys =>
    cases ev
    refine ⟨O, W, P, δ, π, _, π1, Rs, wo, e1, ko, kw, fun v H1 s1 p1 r1 n1 => ?_⟩
    obtain ⟨p, vs, rfl, h1, h2⟩ := r1
    have R1 := Rs.next s1 p1
    refine ⟨p, vs, rfl, SqL.of h1, q _ H1 s1 p1 ⟨_, _, by rw [List.length_map, List.length_zipIdx, ← h2.length]; exact walk_enum (xs := vs), fun O' H2 ho sw => ?_⟩⟩
    refine ⟨SqL.of (sw p _ (n1 p _ rfl rfl) h1), fun i x H3 hi hy => ?_⟩
    obtain ⟨T, x1, x2, rfl, hT, rfl, hx1, hx2⟩ := hy
    cases hx1
    obtain ⟨d, h3, h4⟩ := (items_on R1.okO wo.sub h2 ho sw).getV hx2
    refine ⟨same_upd hT, .tuple [.int i, d], ?_, new_tup hT (.cons (.int _) (.cons h4 .nil))⟩
    rw [List.getElem?_map, List.getElem?_zipIdx, h3]
    simp
  | _ => cases ev
end
end Z
/-! targets; comprehensions -/
namespace Z
open PySem L2 PySem.Spec PyProof.Rows
section
variable {X : Cx} {Γ : Tab} {k : Nat} {N : List Str} {sc : Scope} {x a b c : E} {e f g tg : Expr} {t t' : TE} {pos p0 : Pos}
variable {O : Addr → Prop} {P : Option Addr} {σ σ' : L2.St} {H H' : Hp} {δ δ' : Dl} {π π' : Pot} {d : D} {v : V}
/-- slots that were given data -/
structure Upd (K : PySem.W.Frag) (O : Addr → Prop) (H : Hp) (is : List Nat) (σ : L2.St) (δ : Dl) (σ' : L2.St) (δ' : Dl) : Prop where
  l1 : σ'.length = σ.length
  l2 : δ'.length = δ.length
  at_ : ∀ (i : Nat), (σ'[i]? = σ[i]? ∧ δ'[i]? = δ[i]?) ∨ (i ∈ is ∧ ∃ d v, δ'[i]? = some (Sl.val d) ∧ σ'[i]? = some (some v) ∧ Rp K O H v d)
theorem Upd.refl {K : PySem.W.Frag} {is : List Nat} : Upd K O H is σ δ σ δ := ⟨rfl, rfl, fun _ => .inl ⟨rfl, rfl⟩⟩
theorem Upd.one {K : PySem.W.Frag} {i : Nat} (hl : δ.length = σ.length) (hi : i < δ.length) (r : Rp K O H v d) : Upd K O H [i] σ δ (σ.set i (some v)) (δ.set i (.val d)) :=
  ⟨by simp, by simp, fun j => by
    by_cases e : i = j
    · subst e
      exact .inr ⟨by simp, d, v, by simp [hi], by simp [show i < σ.length by omega], r⟩
    · exact .inl ⟨by simp [e], by simp [e]⟩⟩
theorem Upd.trans {K : PySem.W.Frag} {is js : List Nat} {σ2 : L2.St} {δ2 : Dl} (a : Upd K O H is σ δ σ' δ') (b : Upd K O H js σ' δ' σ2 δ2) : Upd K O H (is ++ js) σ δ σ2 δ2 :=
  ⟨b.l1.trans a.l1, b.l2.trans a.l2, fun i => by
    rcases b.at_ i with ⟨h1, h2⟩ | ⟨h1, h2⟩
    · rcases a.at_ i with ⟨h3, h4⟩ | ⟨h3, d, v, h4, h5, h6⟩
      · exact .inl ⟨h1.trans h3, h2.trans h4⟩
      · exact .inr ⟨List.mem_append_left _ h3, d, v, h2.trans h4, h1.trans h5, h6⟩
    · exact .inr ⟨List.mem_append_right _ h1, h2⟩⟩
theorem RS.upd {K : PySem.W.Frag} {is : List Nat} (R : RS K O P σ H δ π) (u : Upd K O H is σ δ σ' δ') : RS K O P σ' H δ' π where
  len := by rw [u.l1, u.l2]; exact R.len
  val := fun i d e => by
    rcases u.at_ i with ⟨h1, h2⟩ | ⟨_, d', v, h1, h2, h3⟩
    · rw [h1]; rw [h2] at e; exact R.val i d e
    · rw [h1] at e; cases e; exact ⟨v, h2, h3⟩
  own := fun i d e => by
    rcases u.at_ i with ⟨h1, h2⟩ | ⟨_, d', v, h1, h2, h3⟩
    · rw [h1]; rw [h2] at e; exact R.own i d e
    · rw [h1] at e; cases e
  pot := fun i e => by
    rcases u.at_ i with ⟨h1, h2⟩ | ⟨_, d', v, h1, h2, h3⟩
    · rw [h1]; rw [h2] at e; exact R.pot i e
    · rw [h1] at e; cases e
  scr := fun i ns e => by
    rcases u.at_ i with ⟨h1, h2⟩ | ⟨_, d', v, h1, h2, h3⟩
    · rw [h1]; rw [h2] at e; exact R.scr i ns e
    · rw [h1] at e; cases e
  at_ := R.at_
  in_ := R.in_
/-- a target's reading -/
def tG (K : PySem.W.Frag) (p : Pt) : TG := fun v σ H Q => ∃ O d δ δ', Rp K O H v d ∧ δ.length = σ.length ∧ asgP p d δ = some δ' ∧ ∀ σ', Upd K O H (ptSlots p) σ δ σ' δ' → Q σ' H
def tGs (K : PySem.W.Frag) (ps : Pts) : TGs := fun vs σ H Q => ∃ O ds δ δ', RpAll K O H vs ds ∧ δ.length = σ.length ∧ asgPs ps ds δ = some δ' ∧ ∀ σ', Upd K O H (ptSlots.ptsSlots ps) σ δ σ' δ' → Q σ' H
theorem assign_star1 {p : Pt} (h : chkPt N p sc e = true) (rest : List Expr) (env : Env) : assignEach (e :: rest) env = (false, assign e env) :: assignEach rest env := by
  cases e with
  | Starred e' ps => cases p <;> cases h
  | _ => rfl
theorem assign_len : ∀ {ps : Pts} {es : List Expr}, chkPts N ps sc es = true → ∀ env : Env, (assignEach es env).findIdx? (·.1) = none ∧ (assignEach es env).length = es.length
  | .nil, [], _, _ => ⟨rfl, rfl⟩
  | .nil, _ :: _, h, _ => by simp [chkPts] at h
  | .cons _ _, [], h, _ => by simp [chkPts] at h
  | .cons p ps, x :: xs, h, env => by
    simp only [chkPts, Bool.and_eq_true] at h
    rw [assign_star1 h.1]
    obtain ⟨h1, h2⟩ := assign_len (ps := ps) h.2 env
    exact ⟨by rw [List.findIdx?_cons]; simp [h1], by simp [h2]⟩
theorem asgPs_len : ∀ {ps : Pts} {es : List Expr}, chkPts N ps sc es = true → ∀ {ds δ δ'}, asgPs ps ds δ = some δ' → ds.length = es.length
  | .nil, [], _, ds, _, _, h => by cases ds <;> simp [asgPs] at h ⊢
  | .nil, _ :: _, h, _, _, _, _ => by simp [chkPts] at h
  | .cons _ _, [], h, _, _, _, _ => by simp [chkPts] at h
  | .cons p ps, x :: xs, h, ds, δ, δ', ha => by
    simp only [chkPts, Bool.and_eq_true] at h
    cases ds with
    | nil => simp [asgPs] at ha
    | cons d ds =>
      simp only [asgPs] at ha
      obtain ⟨δ1, _, h2⟩ := bind_some ha
      simp [asgPs_len (ps := ps) h.2 h2]
mutual
theorem snd_pt (G : Good Γ k N sc X) : ∀ (p : Pt) (e : Expr), chkPt N p sc e = true → PG X e (tG X.K p)
  | .v i, e, h => by
    cases e <;> try exact (Bool.false_ne_true h).elim
    rename_i y pos
    have h' : (N[i]? == some y && locB sc y) = true := h
    simp only [Bool.and_eq_true, beq_iff_eq] at h'
    obtain ⟨l1, l2⟩ := G.loc h'.2
    refine ⟨fun pins s σ H v u Q I r ⟨O, d, δ, δ', rp, hl, ha, q⟩ => ?_⟩
    refine (pg_name (by rw [G.N_]; exact G.nd) (by rw [G.N_]; exact h'.1) l1 l2).run pins s σ H v u Q I r ?_
    simp only [asgP] at ha
    split at ha
    · rename_i hi
      cases ha
      exact q _ (Upd.one hl hi rp)
    · cases ha
  | .t ps, e, h => by
    cases e <;> try exact (Bool.false_ne_true h).elim
    rename_i es kk pos
    have h' : chkPts N ps sc es = true := h
    obtain ⟨n1, n2⟩ := assign_len h' X.env
    have hs := snd_pts G ps es h'
    refine ⟨fun pins s σ H v u Q I r ⟨O, d, δ, δ', rp, hl, ha, q⟩ => ?_⟩
    refine (pg_tup (n := es.length) G.calm hs n2 n1).run pins s σ H v u Q I r ?_
    cases d with
    | tuple xs =>
      cases rp with
      | tup h1 h3 =>
        exact ⟨_, _, rfl, h1, by rw [h3.length]; exact asgPs_len h' ha, O, xs, δ, δ', h3, hl, ha, q⟩
    | _ => simp [asgP] at ha
theorem snd_pts (G : Good Γ k N sc X) : ∀ (ps : Pts) (es : List Expr), chkPts N ps sc es = true → PGs X es (tGs X.K ps)
  | .nil, [], _ => ⟨fun pins s σ H vs us Q I r ⟨O, ds, δ, δ', rp, hl, ha, q⟩ => by
      cases ds with
      | cons d ds => simp [asgPs] at ha
      | nil =>
        simp only [asgPs] at ha
        cases ha
        cases rp
        exact pgs_nil.run pins s σ H [] us Q I r ⟨rfl, q _ Upd.refl⟩⟩
  | .nil, _ :: _, h => by simp [chkPts] at h
  | .cons _ _, [], h => by simp [chkPts] at h
  | .cons p ps, x :: xs, h => by
    have hh := h
    simp only [chkPts, Bool.and_eq_true] at h
    have h1 := snd_pt G p x h.1
    have h2 := snd_pts G ps xs h.2
    refine ⟨fun pins s σ H vs us Q I r ⟨O, ds, δ, δ', rp, hl, ha, q⟩ => ?_⟩
    refine (pgs_cons h1 h2 (by rw [assign_star1 h.1]; rfl)).run pins s σ H vs us Q I r ?_
    cases ds with
    | nil => simp [asgPs] at ha
    | cons d ds =>
      simp only [asgPs] at ha
      obtain ⟨δ1, a1, a2⟩ := bind_some ha
      cases rp with
      | cons r1 r2 =>
        refine ⟨_, _, rfl, O, d, δ, δ1, r1, hl, a1, fun σ1 u1 => ⟨O, ds, δ1, δ', r2, by rw [u1.l1, u1.l2]; exact hl, a2, fun σ2 u2 => q σ2 (u1.trans u2)⟩⟩
end
/-! wiping -/
theorem wipe_get (σ : L2.St) : ∀ (vs : List Nat) (i : Nat), (wipe σ vs)[i]? = if i ∈ vs then (if i < σ.length then some none else none) else σ[i]?
  | [], i => by simp [wipe]
  | v :: vs, i => by
    unfold wipe
    rw [List.getElem?_set]
    have hl := wipe_length σ vs
    rw [hl]
    by_cases e : v = i
    · subst e
      by_cases h : v < σ.length <;> simp [h]
    · rw [if_neg e, wipe_get σ vs i]
      have : (i ∈ v :: vs) ↔ i ∈ vs := by simp [Ne.symm e]
      simp only [this]
theorem wipeD_len (δ : Dl) : ∀ vs : List Nat, (wipeD δ vs).length = δ.length
  | [] => rfl
  | v :: vs => by unfold wipeD; rw [List.length_set, wipeD_len δ vs]
theorem wipeD_get (δ : Dl) : ∀ (vs : List Nat) (i : Nat), (wipeD δ vs)[i]? = if i ∈ vs then (if i < δ.length then some .no else none) else δ[i]?
  | [], i => by simp [wipeD]
  | v :: vs, i => by
    unfold wipeD
    rw [List.getElem?_set]
    rw [wipeD_len δ vs]
    by_cases e : v = i
    · subst e
      by_cases h : v < δ.length <;> simp [h]
    · rw [if_neg e, wipeD_get δ vs i]
      have : (i ∈ v :: vs) ↔ i ∈ vs := by simp [Ne.symm e]
      simp only [this]
theorem wipe_eq {vs : List Nat} (hl : σ'.length = σ.length) (h : ∀ (i : Nat), i ∉ vs → σ'[i]? = σ[i]?) : wipe σ' vs = wipe σ vs := by
  apply List.ext_getElem?
  intro i
  rw [wipe_get, wipe_get, hl]
  by_cases e : i ∈ vs
  · simp [e]
  · simp [e, h i e]
theorem RS.wipe {K : PySem.W.Frag} (R : RS K O P σ H δ π) (vs : List Nat) : RS K O P (L2.wipe σ vs) H (wipeD δ vs) π := by
  have key : ∀ (i : Nat) (s : Sl), (wipeD δ vs)[i]? = some s → s ≠ .no → δ[i]? = some s ∧ (L2.wipe σ vs)[i]? = σ[i]? := fun i s e hs => by
    rw [wipeD_get] at e
    by_cases h : i ∈ vs
    · rw [if_pos h] at e
      split at e <;> cases e
      exact absurd rfl hs
    · rw [if_neg h] at e
      exact ⟨e, by rw [wipe_get, if_neg h]⟩
  exact {
    len := by rw [wipeD_len, wipe_length]; exact R.len
    val := fun i d e => let ⟨h1, h2⟩ := key i _ e (fun z => by cases z); by rw [h2]; exact R.val i d h1
    own := fun i d e => let ⟨h1, h2⟩ := key i _ e (fun z => by cases z); by rw [h2]; exact R.own i d h1
    pot := fun i e => let ⟨h1, h2⟩ := key i _ e (fun z => by cases z); by rw [h2]; exact R.pot i h1
    scr := fun i ns e => let ⟨h1, h2⟩ := key i _ e (fun z => by cases z); by rw [h2]; exact R.scr i ns h1
    at_ := R.at_
    in_ := R.in_ }
end
end Z
namespace Z
open PySem L2 PySem.Spec PyProof.Rows
section
variable {X : Cx} {Γ : Tab} {k : Nat} {N : List Str} {sc scope : Scope} {x a b c : E} {e f g tg : Expr} {t t' : TE} {pos p0 : Pos}
variable {O : Addr → Prop} {P : Option Addr} {σ σ' : L2.St} {H H' : Hp} {δ δ' : Dl} {π π' : Pot} {d : D} {v : V}
def tCd (Γ : Tab) (K : PySem.W.Frag) (x : Oe) : TT := fun σ H Q => ∃ O P δ π b π', RS K O P σ H δ π ∧ evC Γ x δ π = some (b, π') ∧ ∀ H', SameX P H H' → PotAt P H' π' → Q b H'
theorem lookup_relabel {env : Env} : ∀ {names : List (Str × NameKind)} {x : Str} {q : NameKind}, names.lookup x = some q →
    ∃ q', (names.map fun (n, k) => if (k == NameKind.free && env.scope.kind == .function && env.kindOf n == some .cell) then (n, NameKind.cell) else (n, k)).lookup x = some q' ∧ (q' = q ∨ (q = .free ∧ q' = .cell))
  | [], _, _, h => by simp at h
  | (n, k) :: r, x, q, h => by
    rw [List.map_cons]
    by_cases c : (k == NameKind.free && env.scope.kind == .function && env.kindOf n == some .cell) = true
    · dsimp only
      rw [if_pos c, List.lookup_cons]
      rw [List.lookup_cons] at h
      cases e : x == n with
      | true =>
        rw [e] at h
        cases h
        simp only [Bool.and_eq_true, beq_iff_eq] at c
        exact ⟨_, rfl, .inr ⟨c.1.1, rfl⟩⟩
      | false => rw [e] at h; exact lookup_relabel h
    · dsimp only
      rw [if_neg c, List.lookup_cons]
      rw [List.lookup_cons] at h
      cases e : x == n with
      | true => rw [e] at h; exact ⟨_, h, .inl rfl⟩
      | false => rw [e] at h; exact lookup_relabel h
theorem Good.blk (G : Good Γ k N sc X) (s : Shared) (H : Hp) (C : Addr) (cl : List (Str × Addr)) (fp : List Addr) : Good Γ k N scope (X.blk s H scope (compEnvC scope cl C X.env) fp) where
  calm := G.calm
  N_ := G.N_
  nd := G.nd
  room := G.room
  guards := G.guards
  kinds := fun x q h => lookup_relabel h
  fn := fun x h => by show (scope.names.lookup x == some .cell) = true; rw [h]; rfl
  tab := G.tab
theorem Good.blkOk (G : Good Γ k N sc X) {own : List (Str × Nat)} (h : blkC N sc scope own = true) : BlkOk X.N X.env.scope scope own := by
  have b := blkOk_by h
  rw [G.N_]
  refine ⟨b.kind, b.uniq, b.ix, fun y hy e => ?_, b.own⟩
  rcases b.free y hy e with q | q
  · obtain ⟨q', h1, rfl | ⟨z, _⟩⟩ := G.kinds _ _ q
    · exact .inl h1
    · cases z
  · obtain ⟨q', h1, rfl | ⟨_, rfl⟩⟩ := G.kinds _ _ q
    · exact .inr h1
    · exact .inl h1
theorem KOk.potK {K : PySem.W.Frag} (R : RS K O P σ H δ π) (ks : List Nat) : KOk (potO P) σ δ ks := fun i _ d a h1 h2 h3 => by
  obtain ⟨b, vs, ds, _, e2, _, _, e5⟩ := R.own i d h1
  rw [e2] at h2
  cases h2
  exact e5 h3
theorem list_at {α : Type} {l : List α} {i : Nat} {x : α} (h : l[i]? = some x) : l.drop i = x :: l.drop (i + 1) := by
  obtain ⟨h1, h2⟩ := List.getElem?_eq_some_iff.mp h
  rw [List.drop_eq_getElem_cons h1, h2]
theorem comp_rd {elt : E} {pt : Pt} {it : It} {own : List (Str × Nat)} {cond : Oe} {K : PySem.W.Frag} {Q : VK} (hpt : ∀ i ∈ ptSlots pt, i ∈ own.map (·.2)) (h : tE Γ K (.comp elt pt it own cond) σ H Q) :
    tLc (tI Γ K it) (tG K pt) (tCd Γ K cond) (tE Γ K elt) (own.map (·.2)) σ H Q := by
  obtain ⟨O, P, δ, π, d, π', R, ev, ko, q⟩ := h
  simp only [evE] at ev
  obtain ⟨⟨ds, π1⟩, e1, ev⟩ := bind_some ev
  simp only at ev
  split at ev
  rotate_left
  · cases ev
  rename_i hmax
  obtain ⟨⟨ys, π2⟩, e2, ev⟩ := bind_some ev
  cases ev
  generalize hvs : own.map (·.2) = vs at *
  have kI : KOk O σ δ (keepsI Γ it) := KOk.right ko
  have kE : ∀ i ∈ keeps Γ elt, i ∉ vs → ∀ d a, δ[i]? = some (Sl.own d) → σ[i]? = some (some (.ref a)) → ¬ O a := fun i hi hv => KOk.left ko i (by
    rw [List.mem_filter]
    refine ⟨hi, ?_⟩
    rw [hvs]
    simpa using hv)
  refine ⟨O, potO P, P, δ, π, ds, π1, R, ⟨fun p e => e, fun a e => (R.at_ a e).1⟩, e1, kI, KOk.potK R _, fun J H1 s1 p1 ok => ?_⟩
  intro D hD
  obtain ⟨Gw, Y, wk, hw⟩ := ok
  have hD0 : H D = none := none_back p1 s1 hD
  have nP : P ≠ some D := fun z => by obtain ⟨_, _, _, _, e⟩ := R.at_ D z; rw [hD0] at e; cases e
  have R1 := R.next s1 p1
  have ext : ∀ a, (O a ∨ a = D) → O a ∨ H1 a = none := fun a h => h.imp id fun h => by rw [h]; exact hD
  refine lc_it wk (fun i Hc => ∃ acc yd tl πi, Hc D = some (.lst acc) ∧ acc.length ≤ i ∧ RpAll K (fun a => O a ∨ a = D) Hc acc yd ∧ SameX P H1 Hc ∧ PotAt P Hc πi ∧
    compL (fun d => asgP pt d (wipeD δ vs)) (fun δ' π' => evC Γ cond δ' π') (fun δ' π' => evE Γ elt δ' π') (ds.drop i) πi = some (tl, π2) ∧ ys = yd ++ tl) ?_ ?_ ?_ ?_
  · exact ⟨[], [], ys, π1, upd_same, Nat.le_refl _, .nil, SameX.of (same_upd hD), p1.same (same_upd hD), by simpa using e2, rfl⟩
  · rintro i Hc _ ⟨acc, yd, tl, πi, h1, h2, h3, h4, h5, h6, h7⟩
    exact (hw _ Hc ext (SameX.w (fun p e => e) h4)).1
  · rintro i xv Hc Hd hi ⟨acc, yd, tl, πi, h1, h2, h3, h4, h5, h6, h7⟩ hy
    obtain ⟨sm, di, hdi, rdi⟩ := (hw _ Hc ext (SameX.w (fun p e => e) h4)).2 i xv Hd hi hy
    rw [list_at hdi] at h6
    simp only [compL] at h6
    obtain ⟨δ1, a1, h6⟩ := bind_some h6
    obtain ⟨⟨bb, πj⟩, c1, h6⟩ := bind_some h6
    simp only at h6
    have sd : SameX P H Hd := (s1.trans h4).trans (SameX.of sm)
    have RD := R.more hD0 sd (h5.same sm) (sm D _ h1)
    have RW := RD.wipe vs
    refine ⟨_, di, wipeD δ vs, δ1, rdi, by rw [wipeD_len, wipe_length]; exact R.len, a1, fun σ2 u => ?_⟩
    have Ru := RW.upd u
    have hw2 : wipe σ2 vs = wipe σ vs := by
      refine wipe_eq (by rw [u.l1, wipe_length]) fun j hj => ?_
      rcases u.at_ j with ⟨z, _⟩ | ⟨z, _⟩
      · rw [z, wipe_get, if_neg hj]
      · exact absurd (hpt j z) hj
    refine ⟨hw2, _, P, δ1, πi, bb, πj, Ru, c1, fun H3 s3 p3 => ?_⟩
    have R3 := Ru.next s3 p3
    have hD3 : H3 D = some (.lst acc) := s3 D _ nP (sm D _ h1)
    cases bb with
    | false =>
      simp only [Bool.false_eq_true, if_false] at h6 ⊢
      exact ⟨acc, yd, tl, πj, hD3, by omega, RpAll.next Ru s3 (h3.same sm), (h4.trans (SameX.of sm)).trans s3, p3, h6, h7⟩
    | true =>
      simp only [if_true] at h6 ⊢
      obtain ⟨⟨y, πk⟩, d1, h6⟩ := bind_some h6
      obtain ⟨⟨yr, πl⟩, d2, h6⟩ := bind_some h6
      cases h6
      refine ⟨_, P, δ1, πj, y, πk, R3, d1, fun j hj d' a' o1 o2 => ?_, fun w H4 s4 p4 r4 _ => ?_⟩
      · rcases u.at_ j with ⟨z1, z2⟩ | ⟨_, d'', v'', z1, _⟩
        · rw [z2, wipeD_get] at o1
          rw [z1, wipe_get] at o2
          by_cases hj2 : j ∈ vs
          · rw [if_pos hj2] at o1; split at o1 <;> cases o1
          · rw [if_neg hj2] at o1 o2
            have n1 := kE j hj hj2 d' a' o1 o2
            rintro (n2 | n2)
            · exact n1 n2
            · obtain ⟨a2, ws, es, _, o3, o4, _, _⟩ := R.own j d' o1
              rw [o2] at o3
              cases o3
              rw [n2, hD0] at o4; cases o4
        · rw [z1] at o1; cases o1
      · have hD4 : H4 D = some (.lst acc) := s4 D _ nP hD3
        have R4 := R3.next s4 p4
        have fr : Frm (fun a => O a ∨ a = D) H4 (upd H4 D (.lst (acc ++ [w]))) := fun b o n eb => by
          by_cases e : b = D
          · subst e
            rcases n with n | n
            · exact absurd (.inr rfl) n
            · rw [hD4] at eb; cases eb; exact absurd rfl (n acc)
          · rw [upd_ne e]; exact eb
        have racc : RpAll K (fun a => O a ∨ a = D) H4 acc yd := RpAll.next R3 s4 (RpAll.next Ru s3 (h3.same sm))
        refine ⟨acc, hD4, Nat.lt_of_lt_of_le (Nat.lt_of_le_of_lt h2 hi) (Nat.le_trans hmax maxSize_line), acc ++ [w], yd ++ [y], yr, πk, upd_same, by simp; omega, ?_, ?_, ?_, d2, by rw [h7]; simp⟩
        · exact RpAll.frame fr _ _ (racc.append (.cons r4 .nil))
        · intro b o n eb
          have nb : b ≠ D := fun z => by rw [z, hD] at eb; cases eb
          rw [upd_ne nb]
          exact (((h4.trans (SameX.of sm)).trans s3).trans s4) b o n eb
        · intro p e
          obtain ⟨i1, j1, e1, e2⟩ := p4 p e
          exact ⟨i1, j1, e1, by rw [upd_ne (fun z => nP (by rw [← z]; exact e))]; exact e2⟩
  · rintro Hc ⟨acc, yd, tl, πi, h1, h2, h3, h4, h5, h6, h7⟩
    rw [List.drop_length] at h6
    simp only [compL] at h6
    cases h6
    rw [List.append_nil] at h7
    subst h7
    refine q (.ref D) Hc (s1.trans h4) h5 (.lst h1 (fun z => ?_) (RpAll.less (fun a z => .inl z) _ _ h3)) fun _ xs e => by cases e; exact ⟨D, acc, rfl, hD0, h1, h3⟩
    obtain ⟨_, z2⟩ := R.in_ D z
    rw [hD0] at z2; cases z2
end
end Z
/-! zip of a list or a tuple with a list or a tuple -/
namespace Z
open PySem L2 PySem.Spec PyProof.Rows
def SqK (K : PySem.W.Frag) (k : Bool) (H : Hp) (a : Addr) (xs : List V) : Prop := match k with
  | true => SqL K H a xs
  | false => SqT K H a xs
def ItrK (k : Bool) (h : Heap) (i a : Addr) (n : Nat) : Prop := match k with
  | true => h.IsListIter i a n
  | false => h.IsTupleIter i a n
def IsK (k : Bool) (h : Heap) (a : Addr) (xs : Array Value) : Prop := match k with
  | true => h.IsList a xs
  | false => h.IsTuple a xs
def ItzM (K : PySem.W.Frag) (k1 k2 : Bool) (a b : Addr) : L2.It :=
  ⟨fun i H => ∃ (xs ys : List V) (x y : V), SqK K k1 H a xs ∧ SqK K k2 H b ys ∧ xs[i]? = some x ∧ ys[i]? = some y,
    fun i H v H' => ∃ T x y, v = .ref T ∧ H T = none ∧ H' = upd H T (.tup [x, y]) ∧ (∀ xs, SqK K k1 H a xs → xs[i]? = some x) ∧ ∀ ys, SqK K k2 H b ys → ys[i]? = some y,
    fun i H => ∃ xs ys : List V, SqK K k1 H a xs ∧ SqK K k2 H b ys ∧ i = min xs.length ys.length⟩
def objK (k : Bool) (a : Addr) : Obj := match k with
  | true => { cls := .type "list_iterator", data := .fields #[.ref a, .int 0 0] }
  | false => { cls := .type "tuple_iterator", data := .fields #[.ref a, .int 0 0] }
theorem begins_K (k : Bool) (a : Addr) (items : Array Value) : Begins (.ref a) (objK k a) fun h => IsK k h a items := by
  cases k
  · exact begins_tuple a items
  · exact begins_list a items
theorem draws_K {prog : Program} {w : World} {A : Around} (hh : A.handled = none) (k : Bool) (it l : Addr) (hne : l ≠ it) (items : Array Value) :
    Draws prog w A it [it, l] items.size (fun i v => items[i]? = some v) (fun i h => ItrK k h it l i ∧ IsK k h l items) := by
  cases k
  · exact Draws.tuple hh it l hne items
  · exact Draws.list hh it l hne items
theorem ItrK.obj {k : Bool} {h : Heap} {i a : Addr} {n : Nat} (x : ItrK k h i a n) : ∃ o, h.get? i = some o ∧ ∀ v, o.data ≠ .cell v := by
  cases k
  · obtain ⟨o, e, _, d⟩ := x; exact ⟨o, e, fun v q => by rw [d] at q; cases q⟩
  · obtain ⟨o, e, _, d⟩ := x; exact ⟨o, e, fun v q => by rw [d] at q; cases q⟩
theorem ItrK.at_ {k : Bool} {h h' : Heap} {i a : Addr} {n : Nat} (x : ItrK k h i a n) (e : ∀ o, h.get? i = some o → h'.get? i = some o) : ItrK k h' i a n := by
  cases k
  · exact Heap.IsTupleIter.at x e
  · exact Heap.IsListIter.at x e
theorem seqK {X : Cx} {pins : List (Addr × Obj)} {σ : L2.St} {H : Hp} {s : Shared} (I : Inv X pins σ H s) {k : Bool} {a : Addr} {xs : List V} (h : SqK X.K k H a xs) : ∃ its, Vals xs its ∧ IsK k s.heap a its.toArray := by
  cases k
  · obtain ⟨its, rv, p, _⟩ := I.tuple h; exact ⟨its, rv, p⟩
  · obtain ⟨its, rv, p, _⟩ := I.list h; exact ⟨its, rv, p.isList⟩
theorem injK {X : Cx} {pins : List (Addr × Obj)} {σ : L2.St} {H : Hp} {s : Shared} (I : Inv X pins σ H s) {k : Bool} {a : Addr} {xs ys : List V} (h : SqK X.K k H a xs) (g : SqK X.K k H a ys) : xs = ys := by
  cases k
  · exact I.tuple_inj h g
  · exact I.list_inj h g
theorem IsK.lt {k : Bool} {h : Heap} {a : Addr} {xs : Array Value} (x : IsK k h a xs) : a < h.objs.size := by
  cases k
  · obtain ⟨o, e, _⟩ := id x; exact Heap.lt_size e
  · obtain ⟨o, e, _⟩ := id x; exact Heap.lt_size e
theorem sep_of {a b z TI TO i1 i2 : Addr} (D : ZipApart z TI TO i1 i2 a b) : ZipSep2 z TI TO i1 i2 [i1, a] [i2, b] where
  TIz := D.TIz
  TOz := D.TOz
  TITO := D.TITO
  TIi1 := D.TIi1
  mem1 := by simp
  zf1 := by simp [D.i1z.symm, D.l1z.symm]
  Tf1 := by simp [D.TOi1, D.l1TO.symm]
  TIi2 := D.TIi2
  mem2 := by simp
  zf2 := by simp [D.i2z.symm, D.l2z.symm]
  Tf2 := by simp [D.TOi2, D.l2TO.symm]
  sep1_2 := by simp [D.i12, D.l2i1.symm]
  sep2_1 := by simp [D.i12.symm, D.l1i2.symm]
theorem turn_zipM {P : Program} {w : World} {K : PySem.W.Frag} {k1 k2 : Bool} {elts : List Expr} {kk : Nat} {tpos : Pos} {a b z TI TO i1 i2 : Addr} (D : ZipApart z TI TO i1 i2 a b) :
    Turn P w K (.Tuple elts kk tpos) (ItzM K k1 k2 a b) [z, TI, TO, i1, i2] z (fun i h => IsZip h z TI TO .none ∧ IsTupOf2 h TI (.ref i1) (.ref i2) ∧ (∃ x y, IsTupOf2 h TO x y) ∧ ItrK k1 h i1 a i ∧ ItrK k2 h i2 b i) where
  mem := by simp
  obj := fun i h st c hc => by
    obtain ⟨hz, hTI, ⟨x, y, hTO⟩, h1, h2⟩ := st
    have e' : c = z ∨ c = TI ∨ c = TO ∨ c = i1 ∨ c = i2 := by simpa using hc
    rcases e' with q | q | q | q | q
    · rw [q]; exact ⟨_, hz, fun v q => nomatch q⟩
    · rw [q]; exact ⟨_, hTI, fun v q => nomatch q⟩
    · rw [q]; exact ⟨_, hTO, fun v q => nomatch q⟩
    · rw [q]; exact h1.obj
    · rw [q]; exact h2.obj
  keep := fun i h h' st k => by
    obtain ⟨hz, hTI, ⟨x, y, hTO⟩, h1, h2⟩ := st
    exact ⟨k z (by simp) _ hz, k TI (by simp) _ hTI, ⟨x, y, k TO (by simp) _ hTO⟩, h1.at_ fun o q => k i1 (by simp) o q, h2.at_ fun o q => k i2 (by simp) o q⟩
  item := by
    intro X hP hw hK hc i pins s σ H E I hf st hg
    subst hP hw hK
    obtain ⟨hz, hTI, ⟨x0, y0, hTO⟩, h1, h2⟩ := st
    obtain ⟨xs, ys, x, y, hqx, hqy, hx, hy⟩ := hg
    obtain ⟨its, rv, p⟩ := seqK I hqx
    obtain ⟨its2, rv2, p2⟩ := seqK I hqy
    obtain ⟨u, hu, ru⟩ := rv.get hx
    obtain ⟨u2, hu2, ru2⟩ := rv2.get hy
    have hzl : z < s.heap.objs.size := Heap.lt_size hz
    have hh : X.A.in1.handled = none := I.ok.hd hc
    have li : i < its.toArray.size := by have := (List.getElem?_eq_some_iff.mp hu).1; simpa using this
    have li2 : i < its2.toArray.size := by have := (List.getElem?_eq_some_iff.mp hu2).1; simpa using this
    refine wpAny_pyNext_zipD2_item (sep_of D) (draws_K hh k1 i1 a D.l1i1 its.toArray) (draws_K hh k2 i2 b D.l2i2 its2.toArray) hz hTI hTO ⟨h1, p⟩ ⟨h2, p2⟩ li li2 fun v1 v2 h' tk e1 e2 z' TO' d1 d2 hT hsz hk => ?_
    obtain rfl : v1 = u := by
      have : its.toArray[i]? = some u := by simpa using hu
      rw [this] at e1; cases e1; rfl
    obtain rfl : v2 = u2 := by
      have : its2.toArray[i]? = some u2 := by simpa using hu2
      rw [this] at e2; cases e2; rfl
    refine ⟨_, rfl, wpAny_letOwnedTupleGo_zip (s := { s with heap := h', toks := tk }) z' fun h'' z'' sb => ?_⟩
    have hT2 : h''.get? s.heap.objs.size = some { cls := .type "tuple", data := .seq #[v1, v2] } := (sb.2 _ (Nat.ne_of_gt hzl)).trans hT
    have new : ObjOk X.prog X.w (upd H s.heap.objs.size (.tup [x, y])) h'' s.heap.objs.size (.tup [x, y]) :=
      ⟨by show 2 ≤ sizeLine; decide, [v1, v2], .cons ru (.cons ru2 .nil), ⟨_, hT2, rfl, _, rfl⟩⟩
    have I1 : Inv X pins σ (upd H s.heap.objs.size (.tup [x, y])) { s with heap := h'', toks := tk } :=
      I.turnedNew (t' := tk) (ch := [z, TI, TO, i1, i2]) (fun c o hb q => (sb.2 c (fun q' => hb (by simp [q']))).trans (hk c o (fun q' => hb (by simp [q'])) (fun q' => hb (by simp [q'])) (fun q' => hb (by simp [q'])) (fun q' => hb (by simp [q'])) q)) hf (Nat.le_refl _) new
    refine ⟨.ref s.heap.objs.size, _, I1, rfl, ⟨_, x, y, rfl, I.hok.fresh (Nat.le_refl _), rfl, fun l hl => by rw [injK I hl hqx]; exact hx, fun l hl => by rw [injK I hl hqy]; exact hy⟩, ⟨z'', ?_, ⟨v1, v2, ?_⟩, ?_, ?_⟩, fun c hcm => ?_⟩
    · exact (sb.2 _ D.TIz).trans (hk _ _ D.TIz D.TITO D.TIi1 D.TIi2 hTI)
    · exact (sb.2 _ D.TOz).trans TO'
    · exact d1.1.at_ fun o q => (sb.2 _ D.i1z).trans q
    · exact d2.1.at_ fun o q => (sb.2 _ D.i2z).trans q
    · have hlt : c < s.heap.objs.size := by
        have e' : c = z ∨ c = TI ∨ c = TO ∨ c = i1 ∨ c = i2 := by simpa using hcm
        rcases e' with q | q | q | q | q
        · rw [q]; exact hzl
        · rw [q]; exact Heap.lt_size hTI
        · rw [q]; exact Heap.lt_size hTO
        · rw [q]; obtain ⟨_, e1, _⟩ := h1.obj; exact Heap.lt_size e1
        · rw [q]; obtain ⟨_, e2, _⟩ := h2.obj; exact Heap.lt_size e2
      rw [upd_ne (Nat.ne_of_lt hlt)]
      exact (hf c hcm).1
  done := by
    intro X hP hw hK hc i pins s σ H E I hf st hg
    subst hP hw hK
    obtain ⟨hz, hTI, ⟨x0, y0, hTO⟩, h1, h2⟩ := st
    obtain ⟨xs, ys, hqx, hqy, hend⟩ := hg
    obtain ⟨its, rv, p⟩ := seqK I hqx
    obtain ⟨its2, rv2, p2⟩ := seqK I hqy
    have l1 := rv.length
    have l2 := rv2.length
    have hh : X.A.in1.handled = none := I.ok.hd hc
    exact wpAny_pyNext_zipD2_end (sep_of D) (draws_K hh k1 i1 a D.l1i1 its.toArray) (draws_K hh k2 i2 b D.l2i2 its2.toArray) hz hTI hTO ⟨h1, p⟩ ⟨h2, p2⟩ (by simp; omega) (by simp; omega) (by simp; omega)
      fun h' tk hk => ⟨rfl, I.turnedL (t' := tk) (ch := [z, TI, TO, i1, i2]) (fun c o hb q =>
        hk c o (fun q' => hb (by simp [q'])) (fun q' => hb (by simp [q'])) (fun q' => hb (by simp [q'])) (fun q' => hb (by simp [q'])) q) hf⟩
  self := fun A i s Q E st h => wpAny_pyIter_zip st.1 h
def iZipM (K : PySem.W.Frag) (ta : TA) : TI := fun σ H R => ta σ H fun vs H1 => ∃ a b xs ys k1 k2, vs = [.ref a, .ref b] ∧ SqK K k1 H1 a xs ∧ SqK K k2 H1 b ys ∧ R (ItzM K k1 k2 a b) H1
theorem pi_zipM {X : Cx} {e e2 : Expr} {ta : TA} {p pos tpos : Pos} {elts : List Expr} {kk : Nat} (hg : Gl X "zip") (hm : X.mg "zip" = none) (ha : PA X [e, e2] ta)
    (hs : starEach [e, e2] X.env = (false, eval e X.env) :: starEach [e2] X.env) (hpl : (backTo pos (starEach [e2] X.env)).any (·.1) = false) :
    PI X (.Tuple elts kk tpos) (.Call (.Name "zip" p) [e, e2] [] pos) (iZipM X.K ta) := by
  refine ⟨fun pins s σ H R I h => ?_⟩
  refine Call_ (ld_blt I hg hm PyProof.Rows.boot_zip (PyProof.Rows.callWith_type1 (thn (ha.run pos pins s σ H _ I h) fun us s1 ⟨vs, H1, I1, r1, q1⟩ => ?_) hs hpl))
  obtain ⟨a, b, xs, ys, k1, k2, ex, hqx, hqy, q⟩ := q1
  subst ex
  cases r1 with
  | cons r rr =>
    cases rr with
    | cons r' rr =>
      cases rr
      cases r
      cases r'
      obtain ⟨its, rv, p1⟩ := seqK I1 hqx
      obtain ⟨its2, rv2, p2⟩ := seqK I1 hqy
      have la := p1.lt
      have lb := p2.lt
      refine zip_begins2 (begins_K k1 a _) (begins_K k2 b _) p1 p2 fun h' hz hTI hTO h1 h2 hsz hk => wpAny_pyIter_zip hz ?_
      have I2 : Inv X pins σ H1 { s1 with heap := h' } := I1.kept (t' := s1.toks) hk
      have i1 : ItrK k1 h' s1.heap.objs.size a 0 := by cases k1 <;> exact ⟨_, h1, rfl, rfl⟩
      have i2 : ItrK k2 h' (s1.heap.objs.size + 1) b 0 := by cases k2 <;> exact ⟨_, h2, rfl, rfl⟩
      refine ⟨s1.heap.objs.size + 4, [s1.heap.objs.size + 4, s1.heap.objs.size + 2, s1.heap.objs.size + 3, s1.heap.objs.size, s1.heap.objs.size + 1], _, _, H1, rfl, I2, turn_zipM (PySem.W.ktu_apart s1.heap.objs.size a b la lb), ⟨hz, hTI, ⟨_, _, hTO⟩, i1, i2⟩, fun c hcm => ?_, q⟩
      have e' : c = s1.heap.objs.size + 4 ∨ c = s1.heap.objs.size + 2 ∨ c = s1.heap.objs.size + 3 ∨ c = s1.heap.objs.size ∨ c = s1.heap.objs.size + 1 := by simpa using hcm
      have hle : s1.heap.objs.size ≤ c := by
        rcases e' with z | z | z | z | z
        · rw [z]; exact Nat.le_add_right _ _
        · rw [z]; exact Nat.le_add_right _ _
        · rw [z]; exact Nat.le_add_right _ _
        · rw [z]; exact Nat.le_refl _
        · rw [z]; exact Nat.le_add_right _ _
      exact I1.fpOk hle (I1.hok.fresh hle)
theorem walk_zipM {K : PySem.W.Frag} {k1 k2 : Bool} {a b : Addr} {xs ys : List V} {n : Nat} (hn : n = min xs.length ys.length) : Walk (ItzM K k1 k2 a b) n (fun H => SqK K k1 H a xs ∧ SqK K k2 H b ys) (YPair (fun i => xs[i]?) (fun i => ys[i]?)) := by
  subst hn
  refine ⟨fun i _ hi q => ?_, fun _ q => ⟨xs, ys, q.1, q.2, rfl⟩, fun i H v H' _ q y => ?_⟩
  · have h1 : i < xs.length := by omega
    have h2 : i < ys.length := by omega
    exact ⟨xs, ys, xs[i], ys[i], q.1, q.2, by simp [h1], by simp [h2]⟩
  · obtain ⟨T, x, z, h1, h2, h3, h4, h5⟩ := y
    exact ⟨T, x, z, h1, h2, h3, h4 xs q.1, h5 ys q.2⟩
end Z
namespace Z
open PySem L2 PySem.Spec PyProof.Rows
section
variable {X : Cx} {Γ : Tab} {k : Nat} {N : List Str} {sc scope : Scope} {x a b c : E} {e f g tg : Expr} {t t' : TE} {pos p0 : Pos}
variable {O W : Addr → Prop} {P : Option Addr} {σ σ' : L2.St} {H H' : Hp} {δ δ' : Dl} {π π' : Pot} {d : D} {v : V}
theorem walkable {xs : List D} (R : RS X.K O P σ H δ π) (wo : ∀ a, W a → O a) (r : Pk X.K O H v d) (n : ∀ a ds, v = .ref a → d = .list ds → ¬ W a) (hi : items d = some xs) :
    ∃ p vs k, v = .ref p ∧ RpAll X.K O H vs xs ∧ ∀ H3, SameW W H H3 → SqK X.K k H3 p vs := by
  cases d with
  | list ys =>
    cases hi
    obtain ⟨p, vs, rfl, h1, h2⟩ := r
    exact ⟨p, vs, true, rfl, h2, fun H3 sw => SqL.of (sw p _ (n p _ rfl rfl) h1)⟩
  | tuple ys =>
    cases hi
    obtain ⟨p, vs, rfl, h2, h1 | h1⟩ := r.seq (ds := xs) rfl
    · cases h1.1
    refine ⟨p, vs, false, rfl, h2, fun H3 sw => ?_⟩
    have fr : Frm W H H3 := fun b o n e => sw b o (fun w => by
      rcases n with n | n
      · exact n w
      · obtain ⟨xs, e3⟩ := R.in_ b (wo b w)
        rw [e] at e3; cases e3; exact n xs rfl) e
    exact fr.seqT h1.2
  | _ => cases hi
theorem i_zip (G : Good Γ k N sc X) {elts : List Expr} {kk : Nat} {tpos : Pos} (hb : isB sc "zip" f = true) (hca : chkE N a sc e = true) (hcb : chkE N b sc g = true) (ha : PE X e (tW Γ X.K a)) (hbb : PE X g (tW Γ X.K b)) : PI X (.Tuple elts kk tpos) (.Call f [e, g] [] pos) (tI Γ X.K (.zip a b)) := by
  obtain ⟨pf, rfl, hg⟩ := isB_of hb
  have h1 := star1 hca [g] X.env
  have h2 := star1 hcb [] X.env
  refine PI.run' (wi := fun _ _ _ => True) fun pins s σ H R I ⟨O, W, P, δ, π, ds, π', Rs, wo, ev, ko, kw, q⟩ => ⟨_, pi_zipM (G.gl hg) (G.tab.blt _ (by decide)) (pa_cons ha (pa_cons hbb pa_nil h2) h1) h1 (by rw [h2]; rfl), ?_⟩
  simp only [evI] at ev
  obtain ⟨⟨da, π1⟩, e1, ev⟩ := bind_some ev
  obtain ⟨⟨db, π2⟩, e2, ev⟩ := bind_some ev
  obtain ⟨xs, e3, ev⟩ := bind_some ev
  obtain ⟨ys, e4, ev⟩ := bind_some ev
  cases ev
  refine ⟨O, W, P, δ, π, da, π1, Rs, wo, e1, ko.left, kw.left, fun v H1 s1 p1 r1 n1 => ?_⟩
  have R1 := Rs.next s1 p1
  refine ⟨O, W, P, δ, π1, db, π2, R1, ⟨wo.pot, wo.sub⟩, e2, ko.right, kw.right, fun w H2 s2 p2 r2 n2 => ?_⟩
  have R2 := R1.next s2 p2
  have r1' := Pk.next R1 s2 (fun a ds e1 e2 z => n1 a ds e1 e2 (wo.pot a z)) r1
  obtain ⟨p, vs, k1, rfl, w1, w2⟩ := walkable R2 wo.sub r1' n1 e3
  obtain ⟨p', ws, k2, rfl, w3, w4⟩ := walkable R2 wo.sub r2 n2 e4
  refine ⟨p, p', vs, ws, k1, k2, rfl, w2 _ (fun _ _ _ e => e), w4 _ (fun _ _ _ e => e), q _ H2 (s1.trans s2) p2 ⟨_, _, walk_zipM (xs := vs) (ys := ws) (by simp [w1.length, w3.length]), fun O' H3 ho sw => ?_⟩⟩
  refine ⟨⟨w2 _ sw, w4 _ sw⟩, fun i x H4 hi hy => ?_⟩
  obtain ⟨T, x1, x2, rfl, hT, rfl, hx1, hx2⟩ := hy
  obtain ⟨d1, h3, h4⟩ := (items_on R2.okO wo.sub w1 ho sw).getV hx1
  obtain ⟨d2, h5, h6⟩ := (items_on R2.okO wo.sub w3 ho sw).getV hx2
  refine ⟨same_upd hT, .tuple [d1, d2], ?_, new_tup hT (.cons h4 (.cons h6 .nil))⟩
  rw [List.getElem?_map, List.getElem?_zip_eq_some (z := (d1, d2)) |>.mpr ⟨h3, h5⟩]
  rfl
/-! comprehensions -/
theorem c_no : PTs X [] (tCd Γ X.K .no) := ⟨fun pins s σ H Q I ⟨O, P, δ, π, b, π', R, ev, q⟩ => by
  simp only [evC] at ev
  cases ev
  exact pts_nil.run pins s σ H Q I (q H SameX.refl R.potAt)⟩
theorem c_yes (h : PT X e (tT Γ X.K x)) : PTs X [e] (tCd Γ X.K (.yes x)) := ⟨fun pins s σ H Q I ⟨O, P, δ, π, b, π', R, ev, q⟩ => by
  simp only [evC] at ev
  obtain ⟨⟨da, π1⟩, e1, ev⟩ := bind_some ev
  obtain ⟨j, e2, ev⟩ := bind_some ev
  cases ev
  obtain rfl := asBool_some e2
  exact (pts_one h).run pins s σ H Q I ⟨O, P, δ, π, b, π1, R, e1, q⟩⟩
theorem fold_it {y : It} {i : Expr} (h : chkI N y sc i = true) (env : Env) (x : Value) : foldedSetIterable i env x = pure x := by
  cases i with
  | Set es kk p =>
    exfalso
    cases y with
    | seq a =>
      have h' : chkE N a sc (.Set es kk p) = true := h
      cases a with
      | isi k b => cases k <;> exact Bool.false_ne_true h'
      | _ => exact Bool.false_ne_true h'
    | _ => exact Bool.false_ne_true h
  | _ => rfl
structure CompOk (Γ : Tab) (X : Cx) (elt : E) (pt : Pt) (it : It) (own : List (Str × Nat)) (cond : Oe) (scope : Scope) (x tg i : Expr) (ifs : List Expr) : Prop where
  ok : BlkOk X.N X.env.scope scope own
  hi : PI X tg i (tI Γ X.K it)
  hg : ∀ (s : Shared) (H : Hp) (C : Addr) (cl : List (Str × Addr)) (fp : List Addr), PG (X.blk s H scope (compEnvC scope cl C X.env) fp) tg (tG X.K pt)
  ht : ∀ (s : Shared) (H : Hp) (C : Addr) (cl : List (Str × Addr)) (fp : List Addr), PTs (X.blk s H scope (compEnvC scope cl C X.env) fp) ifs (tCd Γ X.K cond)
  he : ∀ (s : Shared) (H : Hp) (C : Addr) (cl : List (Str × Addr)) (fp : List Addr), PE (X.blk s H scope (compEnvC scope cl C X.env) fp) x (tE Γ X.K elt)
  fo : ∀ x, foldedSetIterable i X.env x = pure x
  sl : ∀ i ∈ ptSlots pt, i ∈ own.map (·.2)
theorem n_comp (G : Good Γ k N sc X) {elt : E} {pt : Pt} {it : It} {own : List (Str × Nat)} {cond : Oe} {i : Expr} {ifs : List Expr} (C : CompOk Γ X elt pt it own cond scope e tg i ifs) :
    PE X (.ListComp e [⟨tg, i, ifs, 0⟩] scope pos) (tE Γ X.K (.comp elt pt it own cond)) := by
  refine peImp (pe_lc G.calm (by rw [G.N_]; exact G.nd) C.hi C.ok C.hg C.ht C.he C.fo) fun σ H Q h => comp_rd C.sl h
/-! a def that draws, a new pot -/
theorem n_calln (G : Good Γ k N sc X) {y y2 : Str} {p : Nat} {es : Es} {xs : List Expr} {p1 p2 : Pos} (h1 : glB sc y = true) (h2 : nameOk y = true) (h3 : glB sc y2 = true) (h4 : nameOk y2 = true) (hp : isNm N sc p e = true) (hca : chkE N a sc f = true) (hc : chkEs N es sc xs = true)
    (hf : PE X f (tE Γ X.K a)) (ha : PA X xs (tEs Γ X.K es)) : PE X (.Call (.Name y p0) (.Call (.Name y2 p1) [e, f] [] p2 :: xs) [] pos) (tE Γ X.K (.calln y y2 p a es)) := by
  refine peRun fun pins s σ H Q I ⟨O, P, δ, π, d, π', R, ev, ko, q⟩ => ?_
  simp only [evE] at ev
  split at ev
  rotate_left
  · cases ev
  obtain ⟨g, eg, ev⟩ := bind_some ev
  obtain ⟨g2, eg2, ev⟩ := bind_some ev
  obtain ⟨⟨da, π1⟩, e1, ev⟩ := bind_some ev
  obtain ⟨i, e2, ev⟩ := bind_some ev
  obtain rfl := asInt_some e2
  split at ev
  rotate_left
  · cases ev
  rename_i ns hs
  obtain ⟨⟨m, n⟩, e3, ev⟩ := bind_some ev
  obtain ⟨⟨ds, π2⟩, e4, ev⟩ := bind_some ev
  obtain ⟨⟨z, xy⟩, e5, ev⟩ := bind_some ev
  cases ev
  obtain ⟨fa, fd, ps, n', hm, hk, hn, F, hb, har⟩ := G.tab.pf y g eg
  obtain ⟨fa2, fd2, ps2, hm2, hk2, F2, hb2⟩ := G.tab.sf y2 g2 eg2
  have hst := star1 hca [] X.env
  have call2 := pe_callG (pos := p2) (p := p1) F2 G.room G.guards (G.gl h3) hm2 hk2 hb2 (a_nm G hp (pa_cons hf pa_nil hst)) (nameOk_of h4).1 (starNm hp _ _) (by rw [hst]; rfl)
  have hs2 : starEach (Expr.Call (.Name y2 p1) [e, f] [] p2 :: xs) X.env = (false, eval (.Call (.Name y2 p1) [e, f] [] p2) X.env) :: starEach xs X.env := rfl
  refine ⟨_, pe_callG F G.room G.guards (G.gl h1) hm hk hb (pa_cons call2 ha hs2) (nameOk_of h2).1 hs2 (star0 hc _ _), ?_⟩
  obtain ⟨ad, h3, h4⟩ := R.scr p ns hs
  have hP : P = none := by
    cases P with
    | none => rfl
    | some c => obtain ⟨_, _, _, e, _⟩ := R.at_ c rfl; cases e
  subst hP
  refine ⟨_, h3, low1 R e1 fun v H1 s1 p1 R1 r1 => ?_⟩
  cases r1
  obtain ⟨ad', h3', h4'⟩ := R1.scr p ns hs
  rw [h3] at h3'; cases h3'
  refine ⟨rfl, ad, ns, i, m, n, rfl, h4', e3, fun pp H2 s2 hp' h5 => ?_⟩
  have R0 := R.next s1 p1
  have R2 := R0.more (π' := π1) hp' (SameX.of s2) (fun _ z => by cases z) h5
  have ko2 : KOk (fun a => O a ∨ a = pp) σ δ (keepsS Γ es) := fun j hj d' a' o1 o2 z => by
    rcases z with z | z
    · exact ko j hj d' a' o1 o2 z
    · obtain ⟨a2, vs, es', _, o3, o4, _, _⟩ := R0.own j d' o1
      rw [o2] at o3; cases o3
      rw [z, hp'] at o4; cases o4
  refine ⟨_, none, δ, π1, ds, π2, R2, e4, ko2, fun vs H3 s3 p3 r3 => ?_⟩
  have R3 := R2.next s3 p3
  have h6 : H3 pp = some (.lst [.int m, .int n]) := s3 pp _ (fun z => by cases z) h5
  refine ⟨by rw [List.length_cons, r3.length, har _ _ _ e5], _, pp, vs, m, n, ds, _, xy.1, xy.2, rfl, h6, .inr rfl, R3.okO, r3, e5, fun v H4 s4 h7 r4 fr => ?_⟩
  have hpH : H pp = none := none_back p1 s1 hp'
  have s04 : SameX none H H4 := fun b o nb eb => by
    have nb2 : b ≠ pp := fun z => by rw [z, hpH] at eb; cases eb
    exact s4 b o (fun z => by cases z; exact nb2 rfl) (s3 b o nb (s2 b o (s1 b o nb eb)))
  refine q v H4 s04 (fun c z => by cases z) (Rp.less (fun a z => .inl z) _ _ r4) fun zz ws ew => ?_
  obtain ⟨p5, us, g1, g2', g3, g4⟩ := fr zz ws ew
  refine ⟨p5, us, g1, ?_, g3, RpAll.less (fun a z => z.elim (fun z => .inl (.inl z)) .inr) _ _ g4⟩
  cases hh : H p5 with
  | none => rfl
  | some o => 
    have := s3 p5 o (fun z => by cases z) (s2 p5 o (s1 p5 o (fun z => by cases z) hh))
    rw [this] at g2'; cases g2'
end
end Z
/-! sorted: data of one kind, tuples that may be empty among them -/
namespace Z
open PySem L2 PySem.Spec PyProof.Rows PySem.W
section
variable {prog : Program} {w : World} {A : Around} {E : Value → Shared → Prop} {s : Shared}
theorem keyLt'_general (x y : Value) : keyLt' general' x y = oneLt' false x y := rfl
/-- the first items, where there are any -/
inductive Firsts (h : Heap) : List Value → List (Option Value) → Prop
  | nil : Firsts h [] []
  | cons {a : Addr} {o : Obj} {xs : Array Value} {n : Nat} {vs : List Value} {fs : List (Option Value)} : h.get? a = some o → o.cls = .type "tuple" → o.data = .seq xs n → Firsts h vs fs → Firsts h (.ref a :: vs) (xs[0]? :: fs)
theorem firsts_mapM {M : Model} : ∀ {vs : List Value} {fs : List (Option Value)} {Q : List (Option Value) → Shared → Prop}, Firsts s.heap vs fs → Q fs s → wpAny M A (vs.mapM firstOfTuple') Q E s
  | _, _, _, .nil, h => by rw [List.mapM_nil]; exact wpAny_pure h
  | _, _, Q, .cons (a := a) (o := o) (xs := xs) (fs := fs) ho hc hd t, h => by
    rw [List.mapM_cons]
    refine wpAny_bind ?_
    rw [kas_first_eq]
    refine wpAny_bind (Looks.here (show Looks M s.heap (typeOf (.ref a)) o.cls from (Looks.ld ho).andThen .now) ?_)
    rw [hc, if_neg (by first | decide | simp)]
    refine wpAny_bind (listItems_at ho hd (wpAny_pure ?_))
    exact wpAny_bind (firsts_mapM (Q := fun bs s' => wpAny M A (pure (xs[0]? :: bs)) Q E s') t (wpAny_pure h))
theorem firsts_of {h : Heap} : ∀ {vs : List Value} {ds : List D}, EachIs (fun v d => ∃ as, Reads h v d as) vs ds → (∀ d ∈ ds, ∃ xs, d = .tuple xs) → ∃ fs, Firsts h vs fs ∧ fs.length = ds.length ∧ ∀ i : Nat, (∃ xs : List D, ds[i]? = some (PyData.tuple xs) ∧ fs[i]?.map Option.isSome = some (!xs.isEmpty)) ∨ ds[i]? = none
  | _, _, .nil, _ => ⟨[], .nil, rfl, fun i => .inr (by simp)⟩
  | _, _, .cons (b := d) ⟨as, r⟩ t, ht => by
    obtain ⟨fs, h1, h2, h3⟩ := firsts_of t fun d hd => ht d (List.mem_cons_of_mem _ hd)
    obtain ⟨xs, rfl⟩ := ht d (List.mem_cons_self ..)
    cases r with
    | @tuple a o vs n _ _ ho hc hd hr =>
      refine ⟨vs[0]? :: fs, .cons ho hc hd h1, by simp [h2], fun i => ?_⟩
      cases i with
      | zero =>
        refine .inl ⟨xs, rfl, ?_⟩
        have hl := SeqAt.ReadsAll.length _ _ _ hr
        cases xs with
        | nil =>
          have : vs = #[] := by simpa using hl
          subst this; rfl
        | cons x xs =>
          have : 0 < vs.size := by simpa using (show 0 < vs.toList.length by rw [hl]; simp)
          simp [this]
      | succ i => simpa using h3 i
theorem kind_general {M : Model} {vs : List Value} {fs : List (Option Value)} {Q : SortKind → Shared → Prop} {f : Value} (t : Firsts s.heap vs fs) (h0 : fs[0]? = some (some f)) (hn : ∃ i : Nat, fs[i]? = some none) (h : Q general' s) : wpAny M A (keyKind' vs.toArray) Q E s := by
  rw [keyKind'_eq, List.mapM_toArray, map_eq_pure_bind]
  refine wpAny_bind (wpAny_bind (firsts_mapM t (wpAny_pure ?_)))
  obtain ⟨i, hi⟩ := hn
  have hall : (fs.toArray.all fun x => x.isSome) = false := by
    rw [List.all_toArray, Bool.eq_false_iff]
    intro z
    have := List.all_eq_true.mp z none (List.mem_of_getElem? hi)
    cases this
  rw [hall, if_neg (by simp)]
  have h1 : (fs.toArray[0]?.bind id).isSome = true := by simp [h0]
  rw [if_pos h1]
  exact wpAny_pure h
theorem kind_one {M : Model} {vs : List Value} {fs : List (Option Value)} {Q : SortKind → Shared → Prop} (t : Firsts s.heap vs fs) (h0 : fs[0]? = some none) (hT : ∀ v ∈ vs, Looks M s.heap (typeOf v) (Value.type "tuple")) (hne : vs ≠ []) (h : Q oneType' s) : wpAny M A (keyKind' vs.toArray) Q E s := by
  rw [keyKind'_eq, List.mapM_toArray, map_eq_pure_bind]
  refine wpAny_bind (wpAny_bind (firsts_mapM t (wpAny_pure ?_)))
  have hall : (fs.toArray.all fun x => x.isSome) = false := by
    rw [List.all_toArray, Bool.eq_false_iff]
    intro z
    have := List.all_eq_true.mp z none (List.mem_of_getElem? h0)
    cases this
  rw [hall, if_neg (by simp)]
  have h1 : (fs.toArray[0]?.bind id).isSome = false := by simp [h0]
  rw [h1, if_neg (by simp)]
  rw [oneTypeOnly'_eq, List.mapM_toArray, map_eq_pure_bind]
  refine wpAny_bind (wpAny_bind (wpAny_bind (kas_mapM (r := Value.type "tuple") _ (fun v hv Q' hq => (hT v hv).here hq) (wpAny_pure ?_))))
  obtain ⟨v, r, rfl⟩ := List.exists_cons_of_ne_nil hne
  have hall : ((List.map (fun _ => Value.type "tuple") (v :: r)).toArray.all fun x => x == Value.type "tuple") = true := by
    simp only [List.all_toArray, List.all_map, List.all_eq_true]
    intro _ _
    rfl
  have h0 : (List.map (fun _ => Value.type "tuple") (v :: r)).toArray[0]? = some (Value.type "tuple") := by simp
  rw [h0]
  simp only [hall, if_true]
  exact wpAny_pure (wpAny_pure h)
/-- tuple's own __lt__, as sorting calls it -/
theorem call_tuple_lt {Q : Value → Shared → Prop} {l b : Addr} {items items2 : Array Value} {e r : Nat → Bool} (hl : s.heap.IsTuple l items) (hb : s.heap.IsTuple b items2)
    (he : ∀ j (h1 : j < items.size) (h2 : j < items2.size), SeqAt.EqAt A.in1 s items[j] items2[j] (e j)) (hr : ∀ j (h1 : j < items.size) (h2 : j < items2.size), e j = false → SeqAt.RcLt A.in1 s items[j] items2[j] (r j))
    (h : Q (.bool (SeqAt.firstLt e r (decide (items.size < items2.size)) (List.range (min items.size items2.size)))) s) : wpAny (model prog w) A (call (.builtin "tuple.__lt__") [.ref l, .ref b]) Q E s := by
  obtain ⟨⟨cls, dd, data, sl⟩, ho, hc, n, hd⟩ := id hl
  obtain ⟨⟨cls2, dd2, data2, sl2⟩, ho2, hc2, n2, hd2⟩ := id hb
  simp only at hc hd hc2 hd2
  subst hc hd hc2 hd2
  exact call_meets F.slot_tuple_lt ⟨_, ho, rfl⟩ F.entry_tuple_lt (F.args_tuple_lt_2 _ _) (SeqAt.tuple_ltAt l b items items2 n n2 dd dd2 sl sl2 e r) ⟨ho, ho2, he, hr, h⟩
theorem oneLt_tuples {xs ys : List D} {a b : Value} {as bs : List Addr} {Q : Bool → Shared → Prop} (ra : Reads s.heap a (.tuple xs) as) (rb : Reads s.heap b (.tuple ys) bs) (hal : alikeAll xs ys = true)
    (hu : A.units + min (PyData.tuple xs).depth (PyData.tuple ys).depth < cLine) (hq : Q (dataLt (.tuple xs) (.tuple ys)) s) : wpAny (model prog w) A (oneLt' true a b) Q E s := by
  cases ra with
  | @tuple l o vs n _ as₁ h1 h2 h3 h4 =>
    cases rb with
    | @tuple l' o' vs' n' _ bs₁ k1 k2 k3 k4 =>
      have n1 : vs.size = xs.length := by simpa using SeqAt.ReadsAll.length _ _ _ h4
      have n2 : vs'.size = ys.length := by simpa using SeqAt.ReadsAll.length _ _ _ k4
      rw [dataLt_tuple, ← firstLt_toks xs ys hal, ← n1, ← n2] at hq
      rw [oneLt'_eq]
      simp only [if_true]
      refine wpAny_bind (wpAny_cRoomFor (SeqAt.room_here hu) ?_)
      refine wpAny_bind (wpAny_callSpecialIfBound?_slot (T := "tuple") ⟨_, h1, h2⟩ F.slot_tuple_lt (call_tuple_lt (e := SeqAt.pairEq xs ys) (r := fun j => dataLt (xs.getD j .none) (ys.getD j .none)) ⟨_, h1, h2, _, h3⟩ ⟨_, k1, k2, _, k3⟩ (fun j j1 j2 => ?_) (fun j j1 j2 hj => ?_) ?_))
      · have := eqAt_alikeAll xs ys A.in1 s vs.toList vs'.toList _ _ h4 k4 hal (SeqAt.room_in hu) j (by simpa using j1) (by simpa using j2)
        simpa using this
      · have := rcLt_alikeAll xs ys A.in1 s vs.toList vs'.toList _ _ h4 k4 hal (SeqAt.room_in hu) j (by simpa using j1) (by simpa using j2) hj
        simpa using this
      · exact wpAny_truthy_bool hq
theorem sortsAt {vs : List Value} {ds : List D} (e : EachIs (fun v d => ∃ as, Reads s.heap v d as) vs ds) (hal : AllAlike ds) (hk : (∀ d ∈ ds, ∃ xs, d = .tuple xs) ∨ ∀ d, d ∈ ds → d ≠ .none ∧ ∀ xs, d ≠ .tuple xs) (hu : ∀ d, d ∈ ds → A.units + d.depth < cLine) :
    SortsAt prog w A s (dataKind s.heap ds) vs := by
  rcases hk with ht | hk
  rotate_left
  · exact SortsAt.data e hal (.inr hk) hu
  by_cases hne : ∀ d ∈ ds, ∃ x r, d = .tuple (x :: r)
  · exact SortsAt.data e hal (.inl hne) hu
  have room : ∀ {d d' : PyData}, d ∈ ds → A.units + min d.depth d'.depth < cLine := fun {d d'} hd => Nat.lt_of_le_of_lt (Nat.add_le_add_left (Nat.min_le_left _ _) _) (hu d hd)
  refine ⟨fun v hv => ?_, ?_⟩
  · obtain ⟨d, hd, as, r⟩ := e.left v hv
    exact ⟨_, dataKind_some hal hd r⟩
  obtain ⟨fs, f1, f2, f3⟩ := firsts_of e ht
  have hmt : ∃ i : Nat, ds[i]? = some (.tuple []) := by
    refine Classical.byContradiction fun z => hne fun d hd => ?_
    obtain ⟨xs, rfl⟩ := ht d hd
    cases xs with
    | cons x r => exact ⟨x, r, rfl⟩
    | nil =>
      obtain ⟨i, hi⟩ := List.getElem?_of_mem hd
      exact absurd ⟨i, hi⟩ z
  obtain ⟨i, hi⟩ := hmt
  have fi : fs[i]? = some none := by
    rcases f3 i with ⟨xs, z1, z2⟩ | z
    · rw [hi] at z1; cases z1
      cases q : fs[i]? with
      | none => rw [q] at z2; cases z2
      | some o =>
        rw [q] at z2
        cases o with
        | none => rfl
        | some _ => cases z2
    · rw [hi] at z; cases z
  cases ds with
  | nil => simp at hi
  | cons d₀ ds₀ =>
    obtain ⟨xs₀, rfl⟩ := ht d₀ (List.mem_cons_self ..)
    have looks : ∀ v ∈ vs, Looks (model prog w) s.heap (typeOf v) (Value.type "tuple") := fun v hv => by
      obtain ⟨d, hd, as, r⟩ := e.left v hv
      obtain ⟨xs, rfl⟩ := ht d hd
      exact looks_reads r
    have f0 := f3 0
    cases xs₀ with
    | nil =>
      have h0 : fs[0]? = some none := by
        rcases f0 with ⟨xs, z1, z2⟩ | z
        · cases z1
          cases q : fs[0]? with
          | none => rw [q] at z2; cases z2
          | some o =>
            rw [q] at z2
            cases o with
            | none => rfl
            | some _ => cases z2
        · cases z
      refine ⟨oneType', fun E x y a b Q ha hb hq => ?_, fun h2 E Q hq => kind_one f1 h0 looks (fun z => by rw [z] at h2; simp at h2) hq⟩
      obtain ⟨d, as, hd, ra, rfl⟩ := dataKind_inv ha
      obtain ⟨d', as', hd', rb, rfl⟩ := dataKind_inv hb
      rw [keyLt'_oneType]
      have hdd := hal d hd d' hd'
      have rm := room (d' := d') hd
      obtain ⟨xs, rfl⟩ := ht d hd
      obtain ⟨ys, rfl⟩ := ht d' hd'
      exact oneLt_tuples ra rb (by simpa [alike] using hdd) rm hq
    | cons x r =>
      have h0 : ∃ f, fs[0]? = some (some f) := by
        rcases f0 with ⟨xs, z1, z2⟩ | z
        · cases z1
          cases q : fs[0]? with
          | none => rw [q] at z2; cases z2
          | some o =>
            rw [q] at z2
            cases o with
            | none => cases z2
            | some f => exact ⟨f, rfl⟩
        · cases z
      obtain ⟨f, h0⟩ := h0
      refine ⟨general', fun E x y a b Q ha hb hq => ?_, fun h2 E Q hq => kind_general f1 h0 ⟨i, fi⟩ hq⟩
      obtain ⟨d, as, hd, ra, rfl⟩ := dataKind_inv ha
      obtain ⟨d', as', hd', rb, rfl⟩ := dataKind_inv hb
      rw [keyLt'_general]
      have hdd := hal d hd d' hd'
      have rm := room (d' := d') hd
      obtain ⟨xs, rfl⟩ := ht d hd
      exact oneLt_alike (fun z => by cases z) ra rb hdd (fun z => by cases z) rm hq
/-! a tuple is copied as a list is -/
theorem collect_tup {l : Addr} {vs : List Value} {Q : List Value → Shared → Prop} (hl : s.heap.IsTuple l vs.toArray)
    (h : Q vs { s with heap := (s.heap.push (seqObj "list" #[] 0)).update s.heap.objs.size (Obj.mapSeq (· ++ vs.toArray)) }) (hsz : vs.length ≤ sizeLine) :
    wpAny (model prog w) A (collect (.ref l)) Q E s := by
  obtain ⟨o, ho, hc, n, hd⟩ := id hl
  unfold collect
  refine wpAny_bind (wpAny_runValue (codeAny_builtin entry_proto_collect' ?_))
  show wpAny _ _ (do again (.builtin "list.__iadd__" ⟨[← newList [], .ref l], []⟩)) _ _ s
  refine wpAny_bind (wpAny_newList (wpAny_pure ⟨Code.quiet_builtin _ (by decide +kernel), codeAny_builtin entry_list_iadd' ?_⟩))
  show wpAny _ _ (Builtin.List.listExtendWith (.ref s.heap.objs.size) (.ref l) (.ref s.heap.objs.size)) _ _ { s with heap := s.heap.push (seqObj "list" #[] 0) }
  unfold Builtin.List.listExtendWith
  have ho' : (s.heap.push (seqObj "list" #[] 0)).get? l = some o := Heap.get?_push_of_some _ ho
  refine wpAny_bind (wpAny_typeOf (T := "tuple") ⟨o, ho', hc⟩ ?_)
  have ht : (Value.type "tuple" == Value.type "tuple") = true := by rfl
  rw [if_pos (by rw [ht]; simp)]
  refine wpAny_bind (listItems_at ho' hd ?_)
  refine wpAny_bind (listItems_at (xs := #[]) (n := 0) (Heap.get?_push_size _ rfl) rfl ?_)
  rw [if_neg (by simp)]
  refine wpAny_bind (listUpdate_at (xs := #[]) (n := 0) (Heap.get?_push_size _ rfl) rfl ?_ (Nat.zero_le _) (by show (#[] ++ vs.toArray).size ≤ sizeLine + 1; simp only [Array.size_append, List.size_toArray, List.length_nil]; omega))
  refine wpAny_pure ?_
  show wpAny (model prog w) A (do
      let o ← load s.heap.objs.size
      match o.data with
      | .seq xs _ => pure xs.toList
      | _ => unsupported "internal:collect") Q E { s with heap := (s.heap.push (seqObj "list" #[] 0)).update s.heap.objs.size (Obj.mapSeq (· ++ vs.toArray)) }
  refine wpAny_bind (wpAny_load (get?_update_seq (Heap.get?_push_size _ rfl) _) ?_)
  show wpAny _ _ (pure ((#[] : Array Value) ++ vs.toArray).toList) Q E _
  rw [show ((#[] : Array Value) ++ vs.toArray).toList = vs by simp]
  exact wpAny_pure h
theorem sorted_src {l : Addr} {vs : List Value} {Q : Value → Shared → Prop} (hl : s.heap.IsList l vs.toArray ∨ s.heap.IsTuple l vs.toArray) (hL : vs.length ≤ sizeLine)
    (body : ∀ E' : Value → Shared → Prop, wpAny (model prog w) A.in1.in1 (Builtin.«list.sort» ⟨[.ref (s.heap.objs.size + 1)], []⟩) (fun f s' => f = .done (.ret .none) ∧ Q (.ref (s.heap.objs.size + 1)) s') E' { s with heap := copyHeap s.heap vs }) :
    wpAny (model prog w) A (call (.builtin "sorted") [.ref l] []) Q E s := by
  refine call_function_entry_kw kind_sorted plain_sorted entry_sorted (args_sorted1 _) ?_
  unfold Builtin.«sorted»
  refine wpAny_bind (m := checkCount "sorted" 1 1 _) (wpAny_pure ?_)
  have col : ∀ {A' : Around} {E' : Value → Shared → Prop} {Q' : List Value → Shared → Prop}, Q' vs { s with heap := (s.heap.push (seqObj "list" #[] 0)).update s.heap.objs.size (Obj.mapSeq (· ++ vs.toArray)) } → wpAny (model prog w) A' (collect (.ref l)) Q' E' s := fun h => by
    rcases hl with hl | hl
    · exact collect_list hl h hL
    · exact collect_tup hl h hL
  refine wpAny_bind (col ?_)
  refine wpAny_bind (wpAny_newList ?_ hL)
  have hsz : ((s.heap.push (seqObj "list" #[] 0)).update s.heap.objs.size (Obj.mapSeq (· ++ vs.toArray))).objs.size = s.heap.objs.size + 1 := by
    rw [Heap.size_update, size_push']
  show wpAny _ _ _ _ _ { s with heap := copyHeap s.heap vs }
  rw [hsz]
  refine wpAny_bind (wpAny_holding (wpAny_call_entry_kw slot_list_sort ⟨_, copyHeap_at s.heap vs, rfl⟩ entry_list_sort ?body (args_list_sort _)))
  case body =>
    show wpAny (model prog w) A.in1.in1 (Builtin.«list.sort» ⟨[.ref (s.heap.objs.size + 1)], []⟩) _ _ _
    refine wpAny_mono (body _) (fun f s' hf => ?_) fun _ _ e => e
    obtain ⟨rfl, hq⟩ := hf
    exact ⟨_, rfl, wpAny_pure ⟨_, rfl, hq⟩⟩
theorem sorted_any {l : Addr} {vs : List Value} {β : Type} {bs : List β} {enc : β → D} {R : Value → β → Prop} {Q : Value → Shared → Prop} (hl : s.heap.IsList l vs.toArray ∨ s.heap.IsTuple l vs.toArray) (e : EachIs R vs bs) (er : EachIs (fun v b => ∃ as, Reads s.heap v (enc b) as) vs bs) (hal : AllAlike (bs.map enc))
    (hk : (∀ d ∈ bs.map enc, ∃ xs, d = .tuple xs) ∨ ∀ d, d ∈ bs.map enc → d ≠ .none ∧ ∀ xs, d ≠ .tuple xs) (hL : bs.length ≤ sizeLine)
    (hu : ∀ b, b ∈ bs → A.units + 2 + (enc b).depth < cLine) (h : ∀ out, out.length = bs.length → EachIs R out (bs.mergeSort (dataLe false enc)) → Q (.ref (s.heap.objs.size + 1)) { s with heap := sortedAll s.heap vs (List.toArray out) }) :
    wpAny (model prog w) A (call (.builtin "sorted") [.ref l] []) Q E s := by
  have er' : EachIs (fun v b => ∃ as, Reads (sortingHeap (copyHeap s.heap vs) (s.heap.objs.size + 1) vs) v (enc b) as) vs bs := er.mono fun _ _ ⟨as, r⟩ => ⟨as, PyProof.Rows.Reads.keeps (fun _ _ => sorting_copy_old) r⟩
  refine sorted_src hl (by rw [e.length]; exact hL) fun E' => ?_
  exact list_sort_vals (s := { s with heap := copyHeap s.heap vs }) (copyHeap_at s.heap vs) (sortsAt (s := { s with heap := sortingHeap (copyHeap s.heap vs) (s.heap.objs.size + 1) vs }) (each_map (R := fun v d => ∃ as, Reads (sortingHeap (copyHeap s.heap vs) (s.heap.objs.size + 1) vs) v d as) enc er') hal hk (bound_map hu)) (by rw [e.length]; exact hL)
    ⟨rfl, h _ (by rw [sortVals_length false rfl]; exact e.length) (sortVals_data false e er' hal)⟩
end
end Z
namespace Z
open PySem L2 PySem.Spec PyProof.Rows PySem.W
/-! stable insertion is merge sort -/
theorem insD_app {α : Type} {lt : α → α → Bool} (a : α) : ∀ (l1 l2 : List α), (∀ b ∈ l1, lt b a = true) → (∀ b ∈ l2, lt b a = false) → insD lt a (l1 ++ l2) = l1 ++ a :: l2
  | [], [], _, _ => rfl
  | [], b :: l2, _, h => by simp [insD, h b (List.mem_cons_self ..)]
  | b :: l1, l2, h1, h2 => by simp [insD, h1 b (List.mem_cons_self ..), insD_app a l1 l2 (fun c hc => h1 c (List.mem_cons_of_mem _ hc)) h2]
theorem sortD_merge {α : Type} {lt : α → α → Bool} (tr : ∀ a b c, (!lt b a) = true → (!lt c b) = true → (!lt c a) = true) (to : ∀ a b, ((!lt b a) || (!lt a b)) = true) : ∀ l : List α, sortD lt l = l.mergeSort fun a b => !lt b a
  | [] => by simp [sortD]
  | a :: l => by
    obtain ⟨l1, l2, h1, h2, h3⟩ := List.mergeSort_cons (le := fun a b => !lt b a) tr to a l
    have srt := List.pairwise_mergeSort (le := fun a b => !lt b a) tr to (a :: l)
    rw [sortD, sortD_merge tr to l, h2, h1]
    refine insD_app a l1 l2 (fun b hb => ?_) (fun b hb => ?_)
    · have := h3 b hb; simpa using this
    · rw [h1] at srt
      have := (List.pairwise_append.mp srt).2.1
      have := (List.pairwise_cons.mp this).1 b hb
      simpa using this
theorem ltD_tr (a b c : D) : (!ltD b a) = true → (!ltD c b) = true → (!ltD c a) = true := by
  intro h1 h2
  cases h : ltD c a with
  | false => rfl
  | true =>
    rcases (listOrd itemOrd).negTrans (keyToks c) (keyToks b) (keyToks a) h with z | z
    · rw [show ltD c b = true from z] at h2; cases h2
    · rw [show ltD b a = true from z] at h1; cases h1
theorem ltD_to (a b : D) : ((!ltD b a) || (!ltD a b)) = true := by
  cases h : ltD b a with
  | false => rfl
  | true =>
    cases h2 : ltD a b with
    | false => rfl
    | true =>
      have := (listOrd itemOrd).trans _ _ _ h h2
      rw [(listOrd itemOrd).irrefl] at this
      cases this
theorem sortD_eq (l : List D) : sortD ltD l = l.mergeSort fun a b => !ltD b a := sortD_merge ltD_tr ltD_to l
theorem map_merge {α β : Type} (f : α → β) (le : β → β → Bool) (l : List α) (tr : ∀ a b c, le a b = true → le b c = true → le a c = true) (to : ∀ a b, (le a b || le b a) = true) : (l.mergeSort fun a b => le (f a) (f b)).map f = (l.map f).mergeSort le := by
  exact List.map_mergeSort (fun a _ b _ => rfl)
section
variable {X : Cx} {k : Nat}
def rSorted (K : PySem.W.Frag) (A : Around) : List V → Hp → VK → Prop := fun xs H Q => ∃ (p : Addr) (ps : List (V × D)), xs = [.ref p] ∧ (SqL K H p (ps.map Prod.fst) ∨ SqT K H p (ps.map Prod.fst)) ∧ (∀ q ∈ ps, Dp K H q.1 q.2) ∧ AllAlike (ps.map Prod.snd) ∧
  ((∀ d ∈ ps.map Prod.snd, ∃ xs, d = .tuple xs) ∨ ∀ d, d ∈ ps.map Prod.snd → d ≠ .none ∧ ∀ xs, d ≠ .tuple xs) ∧ (∀ q ∈ ps, A.units + 2 + q.2.depth < cLine) ∧
  ∀ l, H l = none → Q (.ref l) (upd H l (.lst ((ps.mergeSort (dataLe false Prod.snd)).map Prod.fst)))
theorem each_vals {R : Value → V × D → Prop} : ∀ {ps : List (V × D)} {us : List Value}, Vals (ps.map Prod.fst) us → (∀ q ∈ ps, ∀ u, RelV q.1 u → R u q) → EachIs R us ps
  | [], _, r, _ => by cases r; exact .nil
  | q :: ps, _, r, h => by
    cases r with
    | cons r rr => exact .cons (h q (List.mem_cons_self ..) _ r) (each_vals rr fun q hq => h q (List.mem_cons_of_mem _ hq))
theorem vals_each : ∀ {ps : List (V × D)} {us : List Value}, EachIs (fun u (q : V × D) => RelV q.1 u) us ps → Vals (ps.map Prod.fst) us
  | _, _, .nil => .nil
  | _, _, .cons h t => .cons h (vals_each t)
theorem call_sortedD : CallR X (.builtin "sorted") (rSorted X.K X.A) := by
  intro pins s σ H xs us Q I r h
  obtain ⟨p, ps, rfl, hq, hd, hal, hk, hu, q⟩ := h
  obtain ⟨u, rfl, rx⟩ := vals1 r
  cases rx
  have src : ∃ its, Vals (ps.map Prod.fst) its ∧ (s.heap.IsList p its.toArray ∨ s.heap.IsTuple p its.toArray) ∧ (ps.map Prod.fst).length ≤ sizeLine := by
    rcases hq with hq | hq
    · obtain ⟨its, rv, pl, hz⟩ := I.list hq; exact ⟨its, rv, .inl pl.isList, hz⟩
    · obtain ⟨its, rv, pl, hz⟩ := I.tuple hq; exact ⟨its, rv, .inr pl, hz⟩
  obtain ⟨its, rv, hl, hz⟩ := src
  rw [List.length_map] at hz
  refine sorted_any (bs := ps) (enc := Prod.snd) (R := fun u (q : V × D) => RelV q.1 u) hl (each_vals rv fun q _ u r => r) (each_vals rv fun q hq u r => Dp.reads I q.2 q.1 u (hd q hq) r) hal hk hz hu fun out h1 h2 => ?_
  obtain ⟨e, he⟩ := sortedAll_at s.heap its out.toArray
  have ro := vals_each h2
  refine ⟨.ref (s.heap.objs.size + 1), _, I.laid (t' := s.toks) (fun _ _ => sortedAll_old) (Nat.le_succ _) (show ObjOk X.prog X.w _ _ _ (.lst _) from ⟨by rw [List.length_map, List.length_mergeSort]; exact hz, out, e, ro, he⟩), rfl, q _ (I.hok.fresh (Nat.le_succ _))⟩
theorem alike_of_T {t : Ty} {xs : List D} (h : xs.all (isT t) = true) : AllAlike xs := fun a ha b hb => isT_alike t a b (List.all_eq_true.mp h a ha) (List.all_eq_true.mp h b hb)
theorem kinds_of_T {t : Ty} {xs : List D} (h : xs.all (isT t) = true) : (∀ d ∈ xs, ∃ ys, d = .tuple ys) ∨ ∀ d, d ∈ xs → d ≠ .none ∧ ∀ ys, d ≠ .tuple ys := by
  have h' := List.all_eq_true.mp h
  cases t with
  | int => exact .inr fun d hd => by have := h' d hd; cases d <;> simp_all [isT]
  | str => exact .inr fun d hd => by have := h' d hd; cases d <;> simp_all [isT]
  | seq t => exact .inl fun d hd => by have := h' d hd; cases d <;> simp_all [isT]
  | pair a b => exact .inl fun d hd => by have := h' d hd; cases d <;> simp_all [isT]
  | rows t => exact .inr fun d hd => by have := h' d hd; cases d <;> simp_all [isT]
theorem dataLe_eqD : dataLe false (Prod.snd : V × D → D) = fun a b => !ltD b.2 a.2 := rfl
theorem zip_fst {vs : List V} {ds : List D} (h : vs.length = ds.length) : (vs.zip ds).map Prod.fst = vs := by
  rw [List.map_fst_zip]; omega
theorem zip_snd {vs : List V} {ds : List D} (h : vs.length = ds.length) : (vs.zip ds).map Prod.snd = ds := by
  rw [List.map_snd_zip]; omega
theorem zip_rp {K : PySem.W.Frag} {O : Addr → Prop} {H : Hp} : ∀ {vs : List V} {ds : List D}, RpAll K O H vs ds → ∀ q ∈ vs.zip ds, Rp K O H q.1 q.2
  | _, [], h, q, hq => by cases h; simp at hq
  | _, d :: ds, h, q, hq => by
    cases h with
    | cons h1 h2 =>
      rw [List.zip_cons_cons] at hq
      rcases List.mem_cons.mp hq with rfl | hq
      · exact h1
      · exact zip_rp h2 q hq
theorem rp_zip {K : PySem.W.Frag} {O : Addr → Prop} {H : Hp} : ∀ {ps : List (V × D)}, (∀ q ∈ ps, Rp K O H q.1 q.2) → RpAll K O H (ps.map Prod.fst) (ps.map Prod.snd)
  | [], _ => .nil
  | q :: ps, h => .cons (h q (List.mem_cons_self ..)) (rp_zip fun q hq => h q (List.mem_cons_of_mem _ hq))
theorem sortedV (hr : Room k X.A) {t : Ty} {x : D} {xs : List D} (e : items x = some xs) (ht : xs.all (isT t) = true) (hq : xs.all eqOk = true) : Call1 X (.builtin "sorted") x (.list (sortD ltD xs)) :=
  ⟨_, call_sortedD, fun O H v Q ok p q => by
    obtain ⟨a, vs, rfl, r, h⟩ := p.seq e
    have hl := r.length
    have hs : SqL X.K H a ((vs.zip xs).map Prod.fst) ∨ SqT X.K H a ((vs.zip xs).map Prod.fst) := by
      rw [zip_fst hl]
      rcases h with h | h
      · exact .inl (SqL.of h.2)
      · exact .inr h.2
    have mem : ∀ q ∈ vs.zip xs, q.2 ∈ xs := fun q hq => (List.of_mem_zip (a := q.1) (b := q.2) hq).2
    refine ⟨a, vs.zip xs, rfl, hs, fun q hq' => Rp.dp _ _ (zip_rp r q hq') (SeqAt.canLay_of_shaped (List.all_eq_true.mp hq _ (mem q hq'))), ?_, ?_, fun q hq' => ?_, fun l hl2 => ?_⟩
    · rw [zip_snd hl]; exact alike_of_T ht
    · rw [zip_snd hl]; exact kinds_of_T ht
    · have h1 := SeqAt.depth_of_shaped (List.all_eq_true.mp hq _ (mem q hq'))
      have h2 := hr.un
      omega
    · have key : ((vs.zip xs).mergeSort (dataLe false Prod.snd)).map Prod.snd = sortD ltD xs := by
        rw [sortD_eq, dataLe_eqD, map_merge (Prod.snd : V × D → D) (fun a b => !ltD b a) _ ltD_tr ltD_to, zip_snd hl]
      refine q.lst ok hl2 ?_
      rw [← key]
      exact rp_zip fun q hq' => zip_rp r q ((List.mem_mergeSort ..).mp hq')⟩
end
end Z
/-! every expression -/
namespace Z
open PySem L2 PySem.Spec PyProof.Rows
section
variable {Γ : Tab} {k : Nat} {N : List Str}
theorem n_sorted {X : Cx} {sc : Scope} {f e : Expr} {a : E} {t : Ty} {pos : Pos} (G : Good Γ k N sc X) (hb : isB sc "sorted" f = true) (hc : chkE N a sc e = true) (ha : PE X e (tP Γ X.K a)) : PE X (.Call f [e] [] pos) (tE Γ X.K (.sorted t a)) :=
  n_call1 (fv := .builtin "sorted") G hb (by decide) (by decide +kernel) (.inl ⟨_, rfl⟩) hc ha _ (fun i h => h) fun δ π d π' ev => by
    simp only [evE] at ev
    obtain ⟨⟨da, π1⟩, e1, ev⟩ := bind_some ev
    obtain ⟨xs, e2, ev⟩ := bind_some ev
    simp only at ev
    split at ev
    · rename_i hh
      cases ev
      simp only [Bool.and_eq_true] at hh
      exact ⟨da, e1, sortedV G.room e2 hh.1.1 hh.1.2⟩
    · cases ev
theorem kind_cases {X : Cx} {e : Expr} {x : E} (h : PE X e (tE Γ X.K x)) (he : ∀ whole, isTrue e X.env whole = (do let v ← whole; standAt e.pos; holding [v] (truthy v))) : PE X e (tE Γ X.K x) ∧ PT X e (tT Γ X.K x) := ⟨h, t_plain h he⟩
theorem isTg_tup {x : It} {e : Expr} (hx : (∃ a b, x = .zip a b) ∨ ∃ a, x = .enum a) (h : isTg x e = true) : ∃ es k p, e = .Tuple es k p := by
  rcases hx with ⟨a, b, rfl⟩ | ⟨a, rfl⟩
  · cases e <;> first | exact ⟨_, _, _, rfl⟩ | exact (Bool.false_ne_true h).elim
  · cases e <;> first | exact ⟨_, _, _, rfl⟩ | exact (Bool.false_ne_true h).elim
mutual
theorem sndE : ∀ (x : E) (X : Cx) (sc : Scope) (e : Expr), Good Γ k N sc X → chkE N x sc e = true → PE X e (tE Γ X.K x) ∧ PT X e (tT Γ X.K x)
  | .var i, X, sc, e, G, h => by
    have h' : isNm N sc i e = true := h
    have hh := n_var (Γ := Γ) G h'
    obtain ⟨y, pos, rfl, _⟩ := nm_of h'
    exact kind_cases hh fun _ => rfl
  | .non, X, sc, e, G, h => by
    cases e <;> try exact (Bool.false_ne_true h).elim
    rename_i c kk pos
    cases c <;> try exact (Bool.false_ne_true h).elim
    exact kind_cases (n_const (w := .non) pe_non fun δ π d π' ev => by simp only [evE] at ev; cases ev; exact ⟨rfl, fun _ z => (by cases z), fun _ _ => .non⟩) fun _ => rfl
  | .bl b, X, sc, e, G, h => by
    cases e <;> try exact (Bool.false_ne_true h).elim
    rename_i c kk pos
    cases c <;> try exact (Bool.false_ne_true h).elim
    rename_i c
    have h' : (b == c) = true := h
    obtain rfl := beq_iff_eq.mp h'
    exact kind_cases (n_const (w := .bl b) pe_bl fun δ π d π' ev => by simp only [evE] at ev; cases ev; exact ⟨rfl, fun _ z => (by cases z), fun _ _ => .bl b⟩) fun _ => rfl
  | .int i, X, sc, e, G, h => by
    cases e <;> try exact (Bool.false_ne_true h).elim
    rename_i c kk pos
    cases c <;> try exact (Bool.false_ne_true h).elim
    rename_i c
    have h' : (i == c) = true := h
    obtain rfl := beq_iff_eq.mp h'
    exact kind_cases (n_const (w := .int i) pe_int fun δ π d π' ev => by simp only [evE] at ev; cases ev; exact ⟨rfl, fun _ z => (by cases z), fun _ _ => .int i⟩) fun _ => rfl
  | .str x, X, sc, e, G, h => by
    cases e <;> try exact (Bool.false_ne_true h).elim
    rename_i c kk pos
    cases c <;> try exact (Bool.false_ne_true h).elim
    rename_i c
    have h' : (x == c) = true := h
    obtain rfl := beq_iff_eq.mp h'
    exact kind_cases (n_const (w := .str x) pe_str fun δ π d π' ev => by simp only [evE] at ev; cases ev; exact ⟨rfl, fun _ z => (by cases z), fun _ _ => .str x⟩) fun _ => rfl
  | .glob x, X, sc, e, G, h => by
    cases e <;> try exact (Bool.false_ne_true h).elim
    rename_i y pos
    have h' : (x == y && glB sc y && nameOk y) = true := h
    simp only [Bool.and_eq_true, beq_iff_eq] at h'
    obtain ⟨⟨rfl, h1⟩, h2⟩ := h'
    exact kind_cases (n_glob G h1 h2) fun _ => rfl
  | .tup es, X, sc, e, G, h => by
    cases e <;> try exact (Bool.false_ne_true h).elim
    rename_i xs kk pos
    have h' : (decide (xs.length ≤ 1000) && chkEs N es sc xs) = true := h
    simp only [Bool.and_eq_true, decide_eq_true_eq] at h'
    refine kind_cases (n_tup (sndEs es X sc xs G h'.2) fun δ π d π' ev => ?_) fun _ => rfl
    rw [chkEs_len h'.2 ev, sizeLine_eq]; omega
  | .lst es, X, sc, e, G, h => by
    cases e <;> try exact (Bool.false_ne_true h).elim
    rename_i xs pos
    have h' : (decide (xs.length ≤ 1000) && chkEs N es sc xs) = true := h
    simp only [Bool.and_eq_true, decide_eq_true_eq] at h'
    refine kind_cases (n_lst (sndEs es X sc xs G h'.2) fun δ π d π' ev => ?_) fun _ => rfl
    rw [chkEs_len h'.2 ev, sizeLine_eq]; omega
  | .dnil, X, sc, e, G, h => by
    cases e <;> try exact (Bool.false_ne_true h).elim
    rename_i ks vs pos
    cases ks <;> try exact (Bool.false_ne_true h).elim
    cases vs <;> try exact (Bool.false_ne_true h).elim
    exact kind_cases n_dnil fun _ => rfl
  | .add a b, X, sc, e, G, h => by
    cases e <;> try exact (Bool.false_ne_true h).elim
    rename_i y op z pos
    cases op <;> try exact (Bool.false_ne_true h).elim
    have h' : (chkE N a sc y && chkE N b sc z) = true := h
    simp only [Bool.and_eq_true] at h'
    exact kind_cases (n_add (n_peek G h'.1 (sndE a X sc y G h'.1).1) (n_peek G h'.2 (sndE b X sc z G h'.2).1)) fun _ => rfl
  | .sub a b, X, sc, e, G, h => by
    cases e <;> try exact (Bool.false_ne_true h).elim
    rename_i y op z pos
    cases op <;> try exact (Bool.false_ne_true h).elim
    have h' : (chkE N a sc y && chkE N b sc z) = true := h
    simp only [Bool.and_eq_true] at h'
    exact kind_cases (n_sub (sndE a X sc y G h'.1).1 (sndE b X sc z G h'.2).1) fun _ => rfl
  | .mul a b, X, sc, e, G, h => by
    cases e <;> try exact (Bool.false_ne_true h).elim
    rename_i y op z pos
    cases op <;> try exact (Bool.false_ne_true h).elim
    have h' : (chkE N a sc y && chkE N b sc z) = true := h
    simp only [Bool.and_eq_true] at h'
    exact kind_cases (n_mul (n_peek G h'.1 (sndE a X sc y G h'.1).1) (sndE b X sc z G h'.2).1) fun _ => rfl
  | .fdiv a b, X, sc, e, G, h => by
    cases e <;> try exact (Bool.false_ne_true h).elim
    rename_i y op z pos
    cases op <;> try exact (Bool.false_ne_true h).elim
    have h' : (chkE N a sc y && chkE N b sc z) = true := h
    simp only [Bool.and_eq_true] at h'
    exact kind_cases (n_fdiv (sndE a X sc y G h'.1).1 (sndE b X sc z G h'.2).1) fun _ => rfl
  | .mod a b, X, sc, e, G, h => by
    cases e <;> try exact (Bool.false_ne_true h).elim
    rename_i y op z pos
    cases op <;> try exact (Bool.false_ne_true h).elim
    have h' : (chkE N a sc y && chkE N b sc z) = true := h
    simp only [Bool.and_eq_true] at h'
    exact kind_cases (n_mod (sndE a X sc y G h'.1).1 (sndE b X sc z G h'.2).1) fun _ => rfl
  | .pow a b, X, sc, e, G, h => by
    cases e <;> try exact (Bool.false_ne_true h).elim
    rename_i y op z pos
    cases op <;> try exact (Bool.false_ne_true h).elim
    have h' : (isC a y && isC b z) = true := h
    simp only [Bool.and_eq_true] at h'
    exact kind_cases (n_pow h'.1 h'.2) fun _ => rfl
  | .neg a, X, sc, e, G, h => by
    cases e <;> try exact (Bool.false_ne_true h).elim
    rename_i op y pos
    cases op <;> try exact (Bool.false_ne_true h).elim
    have h' : chkE N a sc y = true := h
    exact kind_cases (n_neg (sndE a X sc y G h').1) fun _ => rfl
  | .cmp o a b, X, sc, e, G, h => by
    cases e <;> try exact (Bool.false_ne_true h).elim
    rename_i y ops zs pos
    rcases ops with _ | ⟨p, _ | ⟨p2, r⟩⟩ <;> try exact (Bool.false_ne_true h).elim
    rcases zs with _ | ⟨z, _ | ⟨z2, r2⟩⟩ <;> try exact (Bool.false_ne_true h).elim
    have h' : (opIs o p && chkE N a sc y && chkE N b sc z) = true := h
    simp only [Bool.and_eq_true] at h'
    exact ⟨n_cmp G h'.1.1 h'.2 (sndE a X sc y G h'.1.2).1 (sndE b X sc z G h'.2).1, t_cmp G h'.1.1 h'.2 (sndE a X sc y G h'.1.2).1 (sndE b X sc z G h'.2).1⟩
  | .cmp2 o o2 a b c, X, sc, e, G, h => by
    cases e <;> try exact (Bool.false_ne_true h).elim
    rename_i y ops zs pos
    rcases ops with _ | ⟨p, _ | ⟨p2, _ | ⟨p3, r⟩⟩⟩ <;> try exact (Bool.false_ne_true h).elim
    rcases zs with _ | ⟨z, _ | ⟨z2, _ | ⟨z3, r2⟩⟩⟩ <;> try exact (Bool.false_ne_true h).elim
    have h' : (opIs o p && opIs o2 p2 && chkE N a sc y && chkE N b sc z && chkE N c sc z2) = true := h
    simp only [Bool.and_eq_true] at h'
    obtain ⟨⟨⟨⟨h1, h2⟩, h3⟩, h4⟩, h5⟩ := h'
    exact ⟨n_cmp2 G h1 h2 h4 h5 (sndE a X sc y G h3).1 (sndE b X sc z G h4).1 (sndE c X sc z2 G h5).1, t_cmp2 G h1 h2 h4 h5 (sndE a X sc y G h3).1 (sndE b X sc z G h4).1 (sndE c X sc z2 G h5).1⟩
  | .all_ es, X, sc, e, G, h => by
    cases e <;> try exact (Bool.false_ne_true h).elim
    rename_i op xs pos
    cases op <;> try exact (Bool.false_ne_true h).elim
    have h' : chkEs N es sc xs = true := h
    cases es with
    | nil =>
      refine ⟨peRun fun pins s σ H Q I ⟨O, P, δ, π, d, π', R, ev, ko, q⟩ => ?_, ⟨fun pins s σ H Q I ⟨O, P, δ, π, d, π', R, ev, q⟩ => ?_⟩⟩
      · simp only [evE, evAnd] at ev; cases ev
      · simp only [evE, evAnd] at ev; cases ev
    | cons x es =>
      have hh := sndAnd (.cons x es) X sc xs pos G h'
      exact ⟨n_and hh.1, ⟨fun pins s σ H Q I ⟨O, P, δ, π, b, π', R, ev, q⟩ => hh.2.run _ pins s σ H Q I ⟨O, P, δ, π, b, π', R, by simpa only [evE] using ev, q⟩⟩⟩
  | .any_ es, X, sc, e, G, h => by
    cases e <;> try exact (Bool.false_ne_true h).elim
    rename_i op xs pos
    cases op <;> try exact (Bool.false_ne_true h).elim
    have h' : chkEs N es sc xs = true := h
    cases es with
    | nil =>
      refine ⟨peRun fun pins s σ H Q I ⟨O, P, δ, π, d, π', R, ev, ko, q⟩ => ?_, ⟨fun pins s σ H Q I ⟨O, P, δ, π, d, π', R, ev, q⟩ => ?_⟩⟩
      · simp only [evE, evOr] at ev; cases ev
      · simp only [evE, evOr] at ev; cases ev
    | cons x es =>
      have hh := sndOr (.cons x es) X sc xs pos G h'
      exact ⟨n_or hh.1, ⟨fun pins s σ H Q I ⟨O, P, δ, π, b, π', R, ev, q⟩ => hh.2.run _ pins s σ H Q I ⟨O, P, δ, π, b, π', R, by simpa only [evE] using ev, q⟩⟩⟩
  | .not a, X, sc, e, G, h => by
    cases e <;> try exact (Bool.false_ne_true h).elim
    rename_i op y pos
    cases op <;> try exact (Bool.false_ne_true h).elim
    have h' : chkE N a sc y = true := h
    have hh := sndE a X sc y G h'
    exact ⟨n_not hh.1, t_not hh.2⟩
  | .ite c a b, X, sc, e, G, h => by
    cases e <;> try exact (Bool.false_ne_true h).elim
    rename_i y z u pos
    have h' : (chkE N c sc y && chkE N a sc z && chkE N b sc u) = true := h
    simp only [Bool.and_eq_true] at h'
    have hc := sndE c X sc y G h'.1.1
    have ha := sndE a X sc z G h'.1.2
    have hb := sndE b X sc u G h'.2
    exact ⟨n_ite hc.2 ha.1 hb.1, t_ite hc.2 ha.2 hb.2⟩
  | .ix a i, X, sc, e, G, h => by
    cases e <;> try exact (Bool.false_ne_true h).elim
    rename_i y z pos
    have h' : (chkE N a sc y && chkE N i sc z) = true := h
    simp only [Bool.and_eq_true] at h'
    exact kind_cases (n_ix h'.2 (n_peek G h'.1 (sndE a X sc y G h'.1).1) (sndE i X sc z G h'.2).1) fun _ => rfl
  | .sl a lo hi, X, sc, e, G, h => by
    cases e <;> try exact (Bool.false_ne_true h).elim
    rename_i y z pos
    cases z <;> try exact (Bool.false_ne_true h).elim
    rename_i l m st pos2
    cases st <;> try exact (Bool.false_ne_true h).elim
    have h' : (chkE N a sc y && chkO N lo sc l && chkO N hi sc m) = true := h
    simp only [Bool.and_eq_true] at h'
    exact kind_cases (n_sl (n_peek G h'.1.1 (sndE a X sc y G h'.1.1).1) (sndO lo X sc l G h'.1.2) (sndO hi X sc m G h'.2)) fun _ => rfl
  | .rev a, X, sc, e, G, h => by cases e <;> exact (Bool.false_ne_true h).elim
  | .len a, X, sc, e, G, h => by
    cases e <;> try exact (Bool.false_ne_true h).elim
    rename_i f args kws pos
    rcases args with _ | ⟨y, _ | ⟨z, r⟩⟩ <;> try exact (Bool.false_ne_true h).elim
    cases kws <;> try exact (Bool.false_ne_true h).elim
    have h' : (isB sc "len" f && chkE N a sc y) = true := h
    simp only [Bool.and_eq_true] at h'
    exact kind_cases (n_len G h'.1 h'.2 (sndE a X sc y G h'.2).1) fun _ => rfl
  | .sum a, X, sc, e, G, h => by
    cases e <;> try exact (Bool.false_ne_true h).elim
    rename_i f args kws pos
    rcases args with _ | ⟨y, _ | ⟨z, r⟩⟩ <;> try exact (Bool.false_ne_true h).elim
    cases kws <;> try exact (Bool.false_ne_true h).elim
    have h' : (isB sc "sum" f && chkE N a sc y) = true := h
    simp only [Bool.and_eq_true] at h'
    exact kind_cases (n_sum G h'.1 h'.2 (sndE a X sc y G h'.2).1) fun _ => rfl
  | .all a, X, sc, e, G, h => by
    cases e <;> try exact (Bool.false_ne_true h).elim
    rename_i f args kws pos
    rcases args with _ | ⟨y, _ | ⟨z, r⟩⟩ <;> try exact (Bool.false_ne_true h).elim
    cases kws <;> try exact (Bool.false_ne_true h).elim
    have h' : (isB sc "all" f && chkE N a sc y) = true := h
    simp only [Bool.and_eq_true] at h'
    exact kind_cases (n_all G h'.1 h'.2 (sndE a X sc y G h'.2).1) fun _ => rfl
  | .any a, X, sc, e, G, h => by
    cases e <;> try exact (Bool.false_ne_true h).elim
    rename_i f args kws pos
    rcases args with _ | ⟨y, _ | ⟨z, r⟩⟩ <;> try exact (Bool.false_ne_true h).elim
    cases kws <;> try exact (Bool.false_ne_true h).elim
    have h' : (isB sc "any" f && chkE N a sc y) = true := h
    simp only [Bool.and_eq_true] at h'
    exact kind_cases (n_any G h'.1 h'.2 (sndE a X sc y G h'.2).1) fun _ => rfl
  | .sorted t a, X, sc, e, G, h => by
    cases e <;> try exact (Bool.false_ne_true h).elim
    rename_i f args kws pos
    rcases args with _ | ⟨y, _ | ⟨z, r⟩⟩ <;> try exact (Bool.false_ne_true h).elim
    cases kws <;> try exact (Bool.false_ne_true h).elim
    have h' : (isB sc "sorted" f && chkE N a sc y) = true := h
    simp only [Bool.and_eq_true] at h'
    exact kind_cases (n_sorted G h'.1 h'.2 (n_peek G h'.2 (sndE a X sc y G h'.2).1)) fun _ => rfl
  | .sset t a, X, sc, e, G, h => by cases e <;> exact (Bool.false_ne_true h).elim
  | .lset a, X, sc, e, G, h => by cases e <;> exact (Bool.false_ne_true h).elim
  | .list a, X, sc, e, G, h => by
    cases e <;> try exact (Bool.false_ne_true h).elim
    rename_i f args kws pos
    rcases args with _ | ⟨y, _ | ⟨z, r⟩⟩ <;> try exact (Bool.false_ne_true h).elim
    cases kws <;> try exact (Bool.false_ne_true h).elim
    have h' : (isB sc "list" f && chkE N a sc y) = true := h
    simp only [Bool.and_eq_true] at h'
    exact kind_cases (n_list G h'.1 h'.2 (n_peek G h'.2 (sndE a X sc y G h'.2).1)) fun _ => rfl
  | .tuple a, X, sc, e, G, h => by
    cases e <;> try exact (Bool.false_ne_true h).elim
    rename_i f args kws pos
    rcases args with _ | ⟨y, _ | ⟨z, r⟩⟩ <;> try exact (Bool.false_ne_true h).elim
    cases kws <;> try exact (Bool.false_ne_true h).elim
    have h' : (isB sc "tuple" f && chkE N a sc y) = true := h
    simp only [Bool.and_eq_true] at h'
    exact kind_cases (n_tuple G h'.1 h'.2 (n_peek G h'.2 (sndE a X sc y G h'.2).1)) fun _ => rfl
  | .rngL a, X, sc, e, G, h => by cases e <;> exact (Bool.false_ne_true h).elim
  | .rngT a, X, sc, e, G, h => by cases e <;> exact (Bool.false_ne_true h).elim
  | .toInt a, X, sc, e, G, h => by
    cases e <;> try exact (Bool.false_ne_true h).elim
    rename_i f args kws pos
    rcases args with _ | ⟨y, _ | ⟨z, r⟩⟩ <;> try exact (Bool.false_ne_true h).elim
    cases kws <;> try exact (Bool.false_ne_true h).elim
    have h' : (isB sc "int" f && chkE N a sc y) = true := h
    simp only [Bool.and_eq_true] at h'
    exact kind_cases (n_toInt G h'.1 h'.2 (sndE a X sc y G h'.2).1) fun _ => rfl
  | .abs a, X, sc, e, G, h => by
    cases e <;> try exact (Bool.false_ne_true h).elim
    rename_i f args kws pos
    rcases args with _ | ⟨y, _ | ⟨z, r⟩⟩ <;> try exact (Bool.false_ne_true h).elim
    cases kws <;> try exact (Bool.false_ne_true h).elim
    have h' : (isB sc "abs" f && chkE N a sc y) = true := h
    simp only [Bool.and_eq_true] at h'
    exact kind_cases (n_abs G h'.1 h'.2 (sndE a X sc y G h'.2).1) fun _ => rfl
  | .repr a, X, sc, e, G, h => by
    cases e <;> try exact (Bool.false_ne_true h).elim
    rename_i f args kws pos
    rcases args with _ | ⟨y, _ | ⟨z, r⟩⟩ <;> try exact (Bool.false_ne_true h).elim
    cases kws <;> try exact (Bool.false_ne_true h).elim
    have h' : (isB sc "repr" f && chkE N a sc y) = true := h
    simp only [Bool.and_eq_true] at h'
    exact kind_cases (n_repr G h'.1 h'.2 (sndE a X sc y G h'.2).1) fun _ => rfl
  | .min2 a b, X, sc, e, G, h => by
    cases e <;> try exact (Bool.false_ne_true h).elim
    rename_i f args kws pos
    rcases args with _ | ⟨y, _ | ⟨z, _ | ⟨z', r⟩⟩⟩ <;> try exact (Bool.false_ne_true h).elim
    cases kws <;> try exact (Bool.false_ne_true h).elim
    have h' : (isB sc "min" f && chkE N a sc y && chkE N b sc z) = true := h
    simp only [Bool.and_eq_true] at h'
    exact kind_cases (n_min2 G h'.1.1 h'.1.2 h'.2 (sndE a X sc y G h'.1.2).1 (sndE b X sc z G h'.2).1) fun _ => rfl
  | .max2 a b, X, sc, e, G, h => by
    cases e <;> try exact (Bool.false_ne_true h).elim
    rename_i f args kws pos
    rcases args with _ | ⟨y, _ | ⟨z, _ | ⟨z', r⟩⟩⟩ <;> try exact (Bool.false_ne_true h).elim
    cases kws <;> try exact (Bool.false_ne_true h).elim
    have h' : (isB sc "max" f && chkE N a sc y && chkE N b sc z) = true := h
    simp only [Bool.and_eq_true] at h'
    exact kind_cases (n_max2 G h'.1.1 h'.1.2 h'.2 (sndE a X sc y G h'.1.2).1 (sndE b X sc z G h'.2).1) fun _ => rfl
  | .minL t a, X, sc, e, G, h => by cases e <;> exact (Bool.false_ne_true h).elim
  | .maxL a, X, sc, e, G, h => by cases e <;> exact (Bool.false_ne_true h).elim
  | .isi kd a, X, sc, e, G, h => by
    cases e <;> try (cases kd <;> exact (Bool.false_ne_true h).elim)
    rename_i f args kws pos
    rcases args with _ | ⟨y, _ | ⟨z, _ | ⟨z', r⟩⟩⟩ <;> try (cases kd <;> exact (Bool.false_ne_true h).elim)
    rotate_left
    · cases kd <;> (try exact (Bool.false_ne_true h).elim) <;> cases z <;> (try exact (Bool.false_ne_true h).elim) <;> (rename_i l _ _; rcases l with _ | ⟨_, _ | ⟨_, _ | ⟨_, _⟩⟩⟩ <;> exact (Bool.false_ne_true h).elim)
    cases kws <;> try (cases kd <;> (try exact (Bool.false_ne_true h).elim) <;> (cases z <;> (try exact (Bool.false_ne_true h).elim) <;> (rename_i l _ _; rcases l with _ | ⟨_, _ | ⟨_, _ | ⟨_, _⟩⟩⟩ <;> exact (Bool.false_ne_true h).elim)))
    by_cases hk : kd = .seq
    · subst hk
      cases z <;> try exact (Bool.false_ne_true h).elim
      rename_i l k2 p2
      rcases l with _ | ⟨t, _ | ⟨u, _ | ⟨u', r⟩⟩⟩ <;> try exact (Bool.false_ne_true h).elim
      have h' : (isB sc "isinstance" f && chkE N a sc y && (isTy sc "list" t && isTy sc "tuple" u || isTy sc "tuple" t && isTy sc "list" u)) = true := h
      simp only [Bool.and_eq_true, Bool.or_eq_true] at h'
      rcases h'.2 with g | g
      · exact kind_cases (n_isiS G true h'.1.1 h'.1.2 (sndE a X sc y G h'.1.2).1 g.1 g.2) fun _ => rfl
      · exact kind_cases (n_isiS G false h'.1.1 h'.1.2 (sndE a X sc y G h'.1.2).1 g.1 g.2) fun _ => rfl
    · have h' : (kd != .seq && isB sc "isinstance" f && chkE N a sc y && isTy sc (kdStr kd) z) = true := by
        cases kd <;> first | exact h | exact absurd rfl hk
      simp only [Bool.and_eq_true] at h'
      exact kind_cases (n_isi G hk h'.1.1.2 h'.1.2 (sndE a X sc y G h'.1.2).1 h'.2) fun _ => rfl
  | .count a b, X, sc, e, G, h => by cases e <;> exact (Bool.false_ne_true h).elim
  | .index a b, X, sc, e, G, h => by cases e <;> exact (Bool.false_ne_true h).elim
  | .call f es, X, sc, e, G, h => by
    cases e <;> try exact (Bool.false_ne_true h).elim
    rename_i g args kws pos
    cases g <;> try exact (Bool.false_ne_true h).elim
    rename_i g gp
    cases kws <;> try exact (Bool.false_ne_true h).elim
    have h' : (f == g && glB sc g && nameOk g && chkEs N es sc args) = true := h
    simp only [Bool.and_eq_true, beq_iff_eq] at h'
    obtain ⟨⟨⟨rfl, h1⟩, h2⟩, h3⟩ := h'
    exact kind_cases (n_call G h1 h2 h3 (sndEs es X sc args G h3)) fun _ => rfl
  | .callk f ks perm ps es, X, sc, e, G, h => by
    cases e <;> try exact (Bool.false_ne_true h).elim
    rename_i g args kws pos
    cases g <;> try exact (Bool.false_ne_true h).elim
    rename_i g gp
    have h' : (f == g && glB sc g && nameOk g && chkKw ks kws && chkEs N ps sc args && chkEs N es sc (kwVals kws)) = true := h
    simp only [Bool.and_eq_true, beq_iff_eq] at h'
    obtain ⟨⟨⟨⟨⟨rfl, h1⟩, h2⟩, h3⟩, h4⟩, h5⟩ := h'
    exact kind_cases (n_callk G h1 h2 h3 h4 (sndEs ps X sc args G h4) (sndKw es X sc kws G h5)) fun _ => rfl
  | .callp f p es, X, sc, e, G, h => by
    cases e <;> try exact (Bool.false_ne_true h).elim
    rename_i g args kws pos
    cases g <;> try exact (Bool.false_ne_true h).elim
    rename_i g gp
    cases args <;> try exact (Bool.false_ne_true h).elim
    rename_i y ys
    cases kws <;> try exact (Bool.false_ne_true h).elim
    have h' : (f == g && glB sc g && nameOk g && isNm N sc p y && chkEs N es sc ys) = true := h
    simp only [Bool.and_eq_true, beq_iff_eq] at h'
    obtain ⟨⟨⟨⟨rfl, h1⟩, h2⟩, h3⟩, h4⟩ := h'
    exact kind_cases (n_callp G h1 h2 h3 h4 (sndEs es X sc ys G h4)) fun _ => rfl
  | .pot0 p, X, sc, e, G, h => by
    cases e <;> try exact (Bool.false_ne_true h).elim
    rename_i y z pos
    have h' : (isNm N sc p y && isC 0 z) = true := h
    simp only [Bool.and_eq_true] at h'
    exact kind_cases (n_pot0 G h'.1 h'.2) fun _ => rfl
  | .pot1 p, X, sc, e, G, h => by
    cases e <;> try exact (Bool.false_ne_true h).elim
    rename_i y z pos
    have h' : (isNm N sc p y && isC 1 z) = true := h
    simp only [Bool.and_eq_true] at h'
    exact kind_cases (n_pot1 G h'.1 h'.2) fun _ => rfl
  | .slen p, X, sc, e, G, h => by
    cases e <;> try exact (Bool.false_ne_true h).elim
    rename_i f args kws pos
    rcases args with _ | ⟨y, _ | ⟨z, r⟩⟩ <;> try exact (Bool.false_ne_true h).elim
    cases kws <;> try exact (Bool.false_ne_true h).elim
    have h' : (isB sc "len" f && isNm N sc p y) = true := h
    simp only [Bool.and_eq_true] at h'
    exact kind_cases (n_slen G h'.1 h'.2) fun _ => rfl
  | .six p a, X, sc, e, G, h => by
    cases e <;> try exact (Bool.false_ne_true h).elim
    rename_i y z pos
    have h' : (isNm N sc p y && chkE N a sc z) = true := h
    simp only [Bool.and_eq_true] at h'
    exact kind_cases (n_six G h'.1 h'.2 (sndE a X sc z G h'.2).1) fun _ => rfl
  | .calls f p a, X, sc, e, G, h => by
    cases e <;> try exact (Bool.false_ne_true h).elim
    rename_i g args kws pos
    cases g <;> try exact (Bool.false_ne_true h).elim
    rename_i g gp
    rcases args with _ | ⟨y, _ | ⟨z, _ | ⟨z', r⟩⟩⟩ <;> try exact (Bool.false_ne_true h).elim
    cases kws <;> try exact (Bool.false_ne_true h).elim
    have h' : (f == g && glB sc g && nameOk g && isNm N sc p y && chkE N a sc z) = true := h
    simp only [Bool.and_eq_true, beq_iff_eq] at h'
    obtain ⟨⟨⟨⟨rfl, h1⟩, h2⟩, h3⟩, h4⟩ := h'
    exact kind_cases (n_calls G h1 h2 h3 h4 (sndE a X sc z G h4).1) fun _ => rfl
  | .calln f g2 p a es, X, sc, e, G, h => by
    cases e <;> try exact (Bool.false_ne_true h).elim
    rename_i g args kws pos
    cases g <;> try exact (Bool.false_ne_true h).elim
    rename_i g gp
    cases args <;> try exact (Bool.false_ne_true h).elim
    rename_i c ys
    cases c <;> try exact (Bool.false_ne_true h).elim
    rename_i g3 args2 kws2 pos2
    cases g3 <;> try exact (Bool.false_ne_true h).elim
    rename_i g3 gp3
    rcases args2 with _ | ⟨y, _ | ⟨z, _ | ⟨z', r⟩⟩⟩ <;> try exact (Bool.false_ne_true h).elim
    cases kws2 <;> try exact (Bool.false_ne_true h).elim
    cases kws <;> try exact (Bool.false_ne_true h).elim
    have h' : (f == g && glB sc g && nameOk g && g2 == g3 && glB sc g3 && nameOk g3 && isNm N sc p y && chkE N a sc z && chkEs N es sc ys) = true := h
    simp only [Bool.and_eq_true, beq_iff_eq] at h'
    obtain ⟨⟨⟨⟨⟨⟨⟨⟨rfl, h1⟩, h2⟩, rfl⟩, h4⟩, h5⟩, h6⟩, h7⟩, h8⟩ := h'
    exact kind_cases (n_calln G h1 h2 h4 h5 h6 h7 h8 (sndE a X sc z G h7).1 (sndEs es X sc ys G h8)) fun _ => rfl
  | .comp elt pt it own cond, X, sc, e, G, h => by
    cases e <;> try exact (Bool.false_ne_true h).elim
    rename_i y gens scope pos
    rcases gens with _ | ⟨⟨tg, i, ifs, asy⟩, _ | ⟨g2, r⟩⟩ <;> try exact (Bool.false_ne_true h).elim
    rotate_left
    · rcases asy with n | n <;> (try exact (Bool.false_ne_true h).elim) <;> rcases n with _ | n <;> exact (Bool.false_ne_true h).elim
    rcases asy with n | n <;> try exact (Bool.false_ne_true h).elim
    rcases n with _ | n <;> try exact (Bool.false_ne_true h).elim
    have h' : (blkC N sc scope own && (ptSlots pt).all (fun i => (own.map (·.2)).contains i) && (own.map (·.2)).all (fun i => decide (i < N.length)) && chkPt N pt scope tg && chkI N it sc i && isTg it tg && chkC N cond scope ifs && chkE N elt scope y && decide ((own.map (·.2)).Nodup)) = true := h
    simp only [Bool.and_eq_true] at h'
    obtain ⟨⟨⟨⟨⟨⟨⟨⟨h1, h2⟩, h3⟩, h4⟩, h5⟩, h6⟩, h7⟩, h8⟩, h9⟩ := h'
    exact kind_cases (n_comp G
      { ok := G.blkOk h1
        hi := sndI it X sc tg i G h5 h6
        hg := fun s H C cl fp => snd_pt (G.blk s H C cl fp) pt tg h4
        ht := fun s H C cl fp => sndC cond _ scope ifs (G.blk s H C cl fp) h7
        he := fun s H C cl fp => (sndE elt _ scope y (G.blk s H C cl fp) h8).1
        fo := fold_it h5 _
        sl := fun i hi => by
          have := List.all_eq_true.mp h2 i hi
          simpa using this }) fun _ => rfl
theorem sndEs : ∀ (es : Es) (X : Cx) (sc : Scope) (xs : List Expr), Good Γ k N sc X → chkEs N es sc xs = true → PA X xs (tEs Γ X.K es)
  | .nil, X, sc, [], G, _ => a_nil
  | .nil, X, sc, _ :: _, G, h => by exact (Bool.false_ne_true h).elim
  | .cons _ _, X, sc, [], G, h => by exact (Bool.false_ne_true h).elim
  | .cons x es, X, sc, y :: ys, G, h => by
    have h' : (chkE N x sc y && chkEs N es sc ys) = true := h
    simp only [Bool.and_eq_true] at h'
    exact a_cons h'.1 (sndE x X sc y G h'.1).1 (sndEs es X sc ys G h'.2)
theorem sndKw : ∀ (es : Es) (X : Cx) (sc : Scope) (kws : List Keyword), Good Γ k N sc X → chkEs N es sc (kwVals kws) = true → PK X kws (tEs Γ X.K es)
  | .nil, X, sc, [], G, _ => k_nil
  | .nil, X, sc, ⟨_, _, _⟩ :: _, G, h => by exact (Bool.false_ne_true h).elim
  | .cons _ _, X, sc, [], G, h => by exact (Bool.false_ne_true h).elim
  | .cons x es, X, sc, ⟨nm, y, kp⟩ :: ys, G, h => by
    have h' : (chkE N x sc y && chkEs N es sc (kwVals ys)) = true := h
    simp only [Bool.and_eq_true] at h'
    exact k_cons (sndE x X sc y G h'.1).1 (sndKw es X sc ys G h'.2)
theorem sndAnd : ∀ (es : Es) (X : Cx) (sc : Scope) (xs : List Expr) (pos : Pos), Good Γ k N sc X → chkEs N es sc xs = true → PE X (.BoolOp .And xs pos) (tAndE Γ X.K es) ∧ PW X (.BoolOp .And xs pos) (tAndP Γ X.K es)
  | .nil, X, sc, xs, pos, G, _ => ⟨peRun fun pins s σ H Q I ⟨O, P, δ, π, d, π', R, ev, ko, q⟩ => (by simp only [evAnd] at ev; cases ev), ⟨fun _ pins s σ H Q I ⟨O, P, δ, π, d, π', R, ev, q⟩ => by simp only [evAnd] at ev; cases ev⟩⟩
  | .cons x es, X, sc, [], pos, G, h => by exact (Bool.false_ne_true h).elim
  | .cons x .nil, X, sc, [y], pos, G, h => by
    have h' : (chkE N x sc y && true) = true := h
    simp only [Bool.and_true] at h'
    have hh := sndE x X sc y G h'
    exact ⟨v_one hh.1, w_and1 hh.2⟩
  | .cons x .nil, X, sc, y :: z :: ys, pos, G, h => by
    have h' : (chkE N x sc y && false) = true := h
    simp at h'
  | .cons x (.cons x2 es), X, sc, [y], pos, G, h => by
    have h' : (chkE N x sc y && false) = true := h
    simp at h'
  | .cons x (.cons x2 es), X, sc, y :: z :: ys, pos, G, h => by
    have h' : (chkE N x sc y && chkEs N (.cons x2 es) sc (z :: ys)) = true := h
    simp only [Bool.and_eq_true] at h'
    have hh := sndE x X sc y G h'.1
    have hr := sndAnd (.cons x2 es) X sc (z :: ys) pos G h'.2
    exact ⟨v_and hh.1 hr.1, w_and hh.2 hr.2⟩
theorem sndOr : ∀ (es : Es) (X : Cx) (sc : Scope) (xs : List Expr) (pos : Pos), Good Γ k N sc X → chkEs N es sc xs = true → PE X (.BoolOp .Or xs pos) (tOrE Γ X.K es) ∧ PW X (.BoolOp .Or xs pos) (tOrP Γ X.K es)
  | .nil, X, sc, xs, pos, G, _ => ⟨peRun fun pins s σ H Q I ⟨O, P, δ, π, d, π', R, ev, ko, q⟩ => (by simp only [evOr] at ev; cases ev), ⟨fun _ pins s σ H Q I ⟨O, P, δ, π, d, π', R, ev, q⟩ => by simp only [evOr] at ev; cases ev⟩⟩
  | .cons x es, X, sc, [], pos, G, h => by exact (Bool.false_ne_true h).elim
  | .cons x .nil, X, sc, [y], pos, G, h => by
    have h' : (chkE N x sc y && true) = true := h
    simp only [Bool.and_true] at h'
    have hh := sndE x X sc y G h'
    exact ⟨v_oneO hh.1, w_or1 hh.2⟩
  | .cons x .nil, X, sc, y :: z :: ys, pos, G, h => by
    have h' : (chkE N x sc y && false) = true := h
    simp at h'
  | .cons x (.cons x2 es), X, sc, [y], pos, G, h => by
    have h' : (chkE N x sc y && false) = true := h
    simp at h'
  | .cons x (.cons x2 es), X, sc, y :: z :: ys, pos, G, h => by
    have h' : (chkE N x sc y && chkEs N (.cons x2 es) sc (z :: ys)) = true := h
    simp only [Bool.and_eq_true] at h'
    have hh := sndE x X sc y G h'.1
    have hr := sndOr (.cons x2 es) X sc (z :: ys) pos G h'.2
    exact ⟨v_or hh.1 hr.1, w_or hh.2 hr.2⟩
theorem sndO : ∀ (x : Oe) (X : Cx) (sc : Scope) (e : Option Expr), Good Γ k N sc X → chkO N x sc e = true → PO X e (tOo Γ X.K x)
  | .no, X, sc, none, G, _ => o_no
  | .no, X, sc, some _, G, h => by exact (Bool.false_ne_true h).elim
  | .yes _, X, sc, none, G, h => by exact (Bool.false_ne_true h).elim
  | .yes x, X, sc, some e, G, h => by
    have h' : chkE N x sc e = true := h
    exact o_yes (sndE x X sc e G h').1
theorem sndC : ∀ (x : Oe) (X : Cx) (sc : Scope) (es : List Expr), Good Γ k N sc X → chkC N x sc es = true → PTs X es (tCd Γ X.K x)
  | .no, X, sc, [], G, _ => c_no
  | .no, X, sc, _ :: _, G, h => by exact (Bool.false_ne_true h).elim
  | .yes _, X, sc, [], G, h => by exact (Bool.false_ne_true h).elim
  | .yes x, X, sc, [e], G, h => by
    have h' : chkE N x sc e = true := h
    exact c_yes (sndE x X sc e G h').2
  | .yes _, X, sc, _ :: _ :: _, G, h => by exact (Bool.false_ne_true h).elim
theorem sndI : ∀ (x : It) (X : Cx) (sc : Scope) (tg e : Expr), Good Γ k N sc X → chkI N x sc e = true → isTg x tg = true → PI X tg e (tI Γ X.K x)
  | .seq a, X, sc, tg, e, G, h, _ => by
    have h' : chkE N a sc e = true := h
    exact i_seq (n_walk G h' (sndE a X sc e G h').1)
  | .rng a, X, sc, tg, e, G, h, _ => by
    cases e <;> try exact (Bool.false_ne_true h).elim
    rename_i f args kws pos
    rcases args with _ | ⟨y, _ | ⟨z, r⟩⟩ <;> try exact (Bool.false_ne_true h).elim
    cases kws <;> try exact (Bool.false_ne_true h).elim
    have h' : (isB sc "range" f && chkE N a sc y) = true := h
    simp only [Bool.and_eq_true] at h'
    exact i_rng G h'.1 h'.2 (sndE a X sc y G h'.2).1
  | .rng2 a b, X, sc, tg, e, G, h, _ => by
    cases e <;> try exact (Bool.false_ne_true h).elim
    rename_i f args kws pos
    rcases args with _ | ⟨y, _ | ⟨z, _ | ⟨z', r⟩⟩⟩ <;> try exact (Bool.false_ne_true h).elim
    cases kws <;> try exact (Bool.false_ne_true h).elim
    have h' : (isB sc "range" f && chkE N a sc y && chkE N b sc z) = true := h
    simp only [Bool.and_eq_true] at h'
    exact i_rng2 G h'.1.1 h'.1.2 h'.2 (sndE a X sc y G h'.1.2).1 (sndE b X sc z G h'.2).1
  | .zip a b, X, sc, tg, e, G, h, ht => by
    obtain ⟨el, kk, tp, rfl⟩ := isTg_tup (.inl ⟨a, b, rfl⟩) ht
    cases e <;> try exact (Bool.false_ne_true h).elim
    rename_i f args kws pos
    rcases args with _ | ⟨y, _ | ⟨z, _ | ⟨z', r⟩⟩⟩ <;> try exact (Bool.false_ne_true h).elim
    cases kws <;> try exact (Bool.false_ne_true h).elim
    have h' : (isB sc "zip" f && chkE N a sc y && chkE N b sc z) = true := h
    simp only [Bool.and_eq_true] at h'
    exact i_zip G h'.1.1 h'.1.2 h'.2 (n_walk G h'.1.2 (sndE a X sc y G h'.1.2).1) (n_walk G h'.2 (sndE b X sc z G h'.2).1)
  | .enum a, X, sc, tg, e, G, h, ht => by
    obtain ⟨el, kk, tp, rfl⟩ := isTg_tup (.inr ⟨a, rfl⟩) ht
    cases e <;> try exact (Bool.false_ne_true h).elim
    rename_i f args kws pos
    rcases args with _ | ⟨y, _ | ⟨z, r⟩⟩ <;> try exact (Bool.false_ne_true h).elim
    cases kws <;> try exact (Bool.false_ne_true h).elim
    have h' : (isB sc "enumerate" f && chkE N a sc y) = true := h
    simp only [Bool.and_eq_true] at h'
    exact i_enum G h'.1 h'.2 (n_walk G h'.2 (sndE a X sc y G h'.2).1)
end
end
end Z
/-! the state between statements -/
namespace Z
open PySem L2 PySem.Spec PyProof.Rows
theorem demote_len (δ : Dl) : ∀ ks : List Nat, (demote δ ks).length = δ.length
  | [] => rfl
  | i :: is => by
    unfold demote
    have := demote_len δ is
    split
    · rw [List.length_set, this]
    · exact this
theorem demote_get (δ : Dl) : ∀ (ks : List Nat) (i : Nat), (demote δ ks)[i]? = if i ∈ ks then δ[i]?.map demo1 else δ[i]?
  | [], i => by simp [demote]
  | j :: js, i => by
    unfold demote
    have ih := demote_get δ js
    have dd : ∀ s, demo1 (demo1 s) = demo1 s := fun s => by cases s <;> rfl
    split
    · rename_i s h
      rw [List.getElem?_set]
      by_cases e : j = i
      · subst e
        have hj := ih j
        rw [h] at hj
        have hl : j < (demote δ js).length := (List.getElem?_eq_some_iff.mp h).1
        simp only [hl, if_true, List.mem_cons, true_or]
        by_cases m : j ∈ js
        · rw [if_pos m] at hj
          cases q : δ[j]? with
          | none => rw [q] at hj; cases hj
          | some t => rw [q] at hj; cases hj; simp [dd]
        · rw [if_neg m] at hj
          rw [← hj]; rfl
      · rw [if_neg e, ih i]
        have : (i ∈ j :: js) ↔ i ∈ js := by simp [Ne.symm e]
        simp only [this]
    · rename_i h
      rw [ih i]
      by_cases e : j = i
      · subst e
        have hj := ih j
        rw [h] at hj
        have : δ[j]? = none := by
          by_cases m : j ∈ js
          · rw [if_pos m] at hj
            cases q : δ[j]? with
            | none => rfl
            | some t => rw [q] at hj; cases hj
          · rw [if_neg m] at hj; exact hj.symm
        simp [this]
      · have : (i ∈ j :: js) ↔ i ∈ js := by simp [Ne.symm e]
        simp only [this]
theorem demote_own {δ : Dl} {ks : List Nat} {i : Nat} {d : D} (h : (demote δ ks)[i]? = some (.own d)) : i ∉ ks ∧ δ[i]? = some (.own d) := by
  rw [demote_get] at h
  by_cases m : i ∈ ks
  · rw [if_pos m] at h
    cases q : δ[i]? with
    | none => rw [q] at h; cases h
    | some t => rw [q] at h; cases t <;> cases h
  · rw [if_neg m] at h; exact ⟨m, h⟩
/-- what changed is within O, what is new in O was no object -/
structure Ev (O : Addr → Prop) (H : Hp) (O' : Addr → Prop) (H' : Hp) : Prop where
  o : ∀ a, O' a → O a ∨ H a = none
  h : SameW O H H'
theorem Ev.refl {O : Addr → Prop} {H : Hp} : Ev O H O H := ⟨fun _ h => .inl h, fun _ _ _ e => e⟩
theorem Ev.trans {O O1 O2 : Addr → Prop} {H H1 H2 : Hp} (a : Ev O H O1 H1) (b : Ev O1 H1 O2 H2) : Ev O H O2 H2 where
  o := fun x hx => by
    by_cases h0 : O x
    · exact .inl h0
    · rcases b.o x hx with h | h
      · exact a.o x h
      · cases e : H x with
        | none => exact .inr rfl
        | some u => rw [a.h x u h0 e] at h; cases h
  h := fun x u h0 e => b.h x u (fun z => (a.o x z).elim h0 fun z => by rw [z] at e; cases e) (a.h x u h0 e)
theorem Ev.less {O O1 : Addr → Prop} {H : Hp} (f : ∀ a, O1 a → O a) : Ev O H O1 H := ⟨fun a h => .inl (f a h), fun _ _ _ e => e⟩
structure Stt (K : PySem.W.Frag) (H0 : Hp) (Oc : Addr → Prop) (P : Option Addr) (O : Addr → Prop) (σ : L2.St) (H : Hp) (δ : Dl) (π : Pot) : Prop where
  rs : RS K O P σ H δ π
  sub : ∀ a, Oc a → O a
  pot : ∀ p, P = some p → Oc p
  ok0 : OkO Oc H0
  own : ∀ (i : Nat) (d : D) (a : Addr), δ[i]? = some (Sl.own d) → σ[i]? = some (some (.ref a)) → O a ∧ H0 a = none
  dis : ∀ (i j : Nat) (d e : D) (a : Addr), i ≠ j → δ[i]? = some (Sl.own d) → δ[j]? = some (Sl.own e) → σ[i]? = some (some (.ref a)) → σ[j]? ≠ some (some (.ref a))
  keep : SameX P H0 H
def Kept (σ : L2.St) (δ : Dl) (ks : List Nat) (a : Addr) : Prop := ∃ i ∈ ks, ∃ d, δ[i]? = some (Sl.own d) ∧ σ[i]? = some (some (.ref a))
section
variable {K : PySem.W.Frag} {H0 : Hp} {Oc O : Addr → Prop} {P : Option Addr} {σ σ' : L2.St} {H H' : Hp} {δ δ' : Dl} {π π' : Pot} {Γ : Tab} {d : D} {v : V} {e : E}
theorem Stt.next (S : Stt K H0 Oc P O σ H δ π) (s : SameX P H H') (q : PotAt P H' π') : Stt K H0 Oc P O σ H' δ π' :=
  ⟨S.rs.next s q, S.sub, S.pot, S.ok0, S.own, S.dis, S.keep.trans s⟩
theorem Stt.evn (S : Stt K H0 Oc P O σ H δ π) (s : SameX P H H') : Ev O H O H' := ⟨fun _ h => .inl h, s.w fun p e => (S.rs.at_ p e).1⟩
theorem Stt.lessK (S : Stt K H0 Oc P O σ H δ π) (ks : List Nat) : RS K (fun a => O a ∧ ¬ Kept σ δ ks a) P σ H δ π ∧ KOk (fun a => O a ∧ ¬ Kept σ δ ks a) σ δ ks :=
  ⟨S.rs.less (fun a h => h.1) fun p e => ⟨(S.rs.at_ p e).1, fun ⟨i, _, d, h1, h2⟩ => by
    obtain ⟨a, vs, ds, _, e2, _, _, e5⟩ := S.rs.own i d h1
    rw [e2] at h2; cases h2; exact e5 e⟩, fun i hi d a h1 h2 h3 => h3.2 ⟨i, hi, d, h1, h2⟩⟩
theorem Stt.demote (S : Stt K H0 Oc P O σ H δ π) (ks : List Nat) : Stt K H0 Oc P (fun a => O a ∧ ¬ Kept σ δ ks a) σ H (demote δ ks) π := by
  obtain ⟨R, _⟩ := S.lessK ks
  refine ⟨⟨by rw [demote_len]; exact R.len, fun i d e => ?_, fun i d e => R.own i d (demote_own e).2, fun i e => ?_, fun i ns e => ?_, R.at_, R.in_⟩, fun a h => ⟨S.sub a h, fun ⟨i, _, d, h1, h2⟩ => ?_⟩, S.pot, S.ok0, fun i d a h1 h2 => ?_, fun i j d e a hij h1 h2 => S.dis i j d e a hij (demote_own h1).2 (demote_own h2).2, S.keep⟩
  · rw [demote_get] at e
    by_cases m : i ∈ ks
    · rw [if_pos m] at e
      cases q : δ[i]? with
      | none => rw [q] at e; cases e
      | some t =>
        rw [q] at e
        cases t with
        | val d' => cases e; exact R.val i d q
        | own d' =>
          cases e
          obtain ⟨a, vs, ds, rfl, e2, e3, e4, _⟩ := R.own i d q
          exact ⟨_, e2, .lst e3 (fun z => z.2 ⟨i, m, _, q, e2⟩) e4⟩
        | no => cases e
        | pot => cases e
        | scr ns => cases e
    · rw [if_neg m] at e; exact R.val i d e
  · rw [demote_get] at e
    by_cases m : i ∈ ks
    · rw [if_pos m] at e
      cases q : δ[i]? with
      | none => rw [q] at e; cases e
      | some t => rw [q] at e; cases t <;> first | exact R.pot i q | cases e
    · rw [if_neg m] at e; exact R.pot i e
  · rw [demote_get] at e
    by_cases m : i ∈ ks
    · rw [if_pos m] at e
      cases q : δ[i]? with
      | none => rw [q] at e; cases e
      | some t => rw [q] at e; cases t <;> first | (cases e; exact R.scr i ns q) | cases e
    · rw [if_neg m] at e; exact R.scr i ns e
  · obtain ⟨xs, z⟩ := S.ok0 a h
    rw [(S.own i d a h1 h2).2] at z; cases z
  · obtain ⟨m, h1'⟩ := demote_own h1
    refine ⟨⟨(S.own i d a h1' h2).1, fun ⟨j, hj, e, h3, h4⟩ => ?_⟩, (S.own i d a h1' h2).2⟩
    exact S.dis i j d e a (fun z => m (z ▸ hj)) h1' h3 h2 h4
/-- a value has come -/
structure Vl (K : PySem.W.Frag) (H0 : Hp) (Oc : Addr → Prop) (P : Option Addr) (Ob : Addr → Prop) (Hb : Hp) (O : Addr → Prop) (σ : L2.St) (H : Hp) (δ : Dl) (π : Pot) (fr : Bool) (v : V) (d : D) : Prop where
  st : Stt K H0 Oc P O σ H δ π
  ev : Ev Ob Hb O H
  rp : Rp K O H v d
  fr : fr = true → ∀ xs, d = .list xs → ∃ p ws, v = .ref p ∧ H p = some (.lst ws) ∧ RS K (fun a => O a ∨ a = p) P σ H δ π ∧ RpAll K (fun a => O a ∨ a = p) H ws xs ∧ H0 p = none ∧ Hb p = none ∧ P ≠ some p
theorem Stt.eval (S : Stt K H0 Oc P O σ H δ π) (ev : evE Γ e δ π = some (d, π')) {C : VK}
    (q : ∀ O1 v H1, SameX P H H1 → PotAt P H1 π' → Vl K H0 Oc P O H O1 σ H1 (Z.demote δ (keeps Γ e)) π' (fresh Γ e) v d → C v H1) : tE Γ K e σ H C := by
  obtain ⟨R, ko⟩ := S.lessK (keeps Γ e)
  refine ⟨_, P, δ, π, d, π', R, ev, ko, fun v H1 s p r fr => ?_⟩
  have S1 := S.demote (keeps Γ e)
  refine q _ v H1 s p ⟨S1.next s p, (Ev.less fun a h => h.1).trans (S1.evn s), r, fun hf xs hx => ?_⟩
  obtain ⟨p', ws, h1, h2, h3, h4⟩ := fr hf xs hx
  have hP : P ≠ some p' := fun z => by obtain ⟨_, _, _, _, e⟩ := R.at_ p' z; rw [h2] at e; cases e
  refine ⟨p', ws, h1, h3, S1.rs.more h2 s p h3, h4, ?_, h2, hP⟩
  cases q0 : H0 p' with
  | none => rfl
  | some u => rw [S.keep p' u hP q0] at h2; cases h2
theorem RS.setOwn {p : Addr} {ws : List V} {xs : List D} {i : Nat} (R : RS K O P σ H δ π) (hi : i < δ.length) (h : H p = some (.lst ws)) (r : RpAll K O H ws xs) (hP : P ≠ some p) : RS K O P (σ.set i (some (.ref p))) H (δ.set i (.own (.list xs))) π := by
  have hl := R.len
  have key : ∀ (j : Nat) (s : Sl), (δ.set i (.own (.list xs)))[j]? = some s → (j = i ∧ s = .own (.list xs)) ∨ (j ≠ i ∧ δ[j]? = some s ∧ (σ.set i (some (V.ref p)))[j]? = σ[j]?) := fun j s e => by
    rw [List.getElem?_set] at e
    by_cases c : i = j
    · subst c
      rw [if_pos rfl, if_pos hi] at e
      exact .inl ⟨rfl, (Option.some.inj e).symm⟩
    · rw [if_neg c] at e
      exact .inr ⟨Ne.symm c, e, by rw [List.getElem?_set, if_neg c]⟩
  have here : (σ.set i (some (V.ref p)))[i]? = some (some (.ref p)) := by rw [List.getElem?_set]; simp [show i < σ.length by omega]
  refine ⟨by simpa using hl, fun j d e => ?_, fun j d e => ?_, fun j e => ?_, fun j ns e => ?_, R.at_, R.in_⟩
  · rcases key j _ e with ⟨_, z⟩ | ⟨_, h1, h2⟩
    · cases z
    · rw [h2]; exact R.val j d h1
  · rcases key j _ e with ⟨rfl, z⟩ | ⟨_, h1, h2⟩
    · cases z; exact ⟨p, ws, xs, rfl, here, h, r, hP⟩
    · rw [h2]; exact R.own j d h1
  · rcases key j _ e with ⟨_, z⟩ | ⟨_, h1, h2⟩
    · cases z
    · rw [h2]; exact R.pot j h1
  · rcases key j _ e with ⟨_, z⟩ | ⟨_, h1, h2⟩
    · cases z
    · rw [h2]; exact R.scr j ns h1
theorem Stt.updS {is : List Nat} (S : Stt K H0 Oc P O σ H δ π) (u : Upd K O H is σ δ σ' δ') : Stt K H0 Oc P O σ' H δ' π := by
  have key : ∀ (i : Nat) (d : D), δ'[i]? = some (.own d) → δ[i]? = some (.own d) ∧ σ'[i]? = σ[i]? := fun i d e => by
    rcases u.at_ i with ⟨h1, h2⟩ | ⟨_, d', v, h1, _⟩
    · rw [h2] at e; exact ⟨e, h1⟩
    · rw [h1] at e; cases e
  refine ⟨S.rs.upd u, S.sub, S.pot, S.ok0, fun i d a h1 h2 => ?_, fun i j d e a hij h1 h2 h3 => ?_, S.keep⟩
  · obtain ⟨k1, k2⟩ := key i d h1
    exact S.own i d a k1 (k2 ▸ h2)
  · obtain ⟨k1, k2⟩ := key i d h1
    obtain ⟨k3, k4⟩ := key j e h2
    rw [k4]; rw [k2] at h3
    exact S.dis i j d e a hij k1 k3 h3
theorem mkSl_val {fr : Bool} (h : ¬ (fr = true ∧ ∃ xs, d = .list xs)) : mkSl fr d = .val d := by
  cases fr with
  | false => cases d <;> rfl
  | true => cases d <;> first | rfl | exact absurd ⟨rfl, _, rfl⟩ h
theorem Stt.assignOwn {i : Nat} {p : Addr} {ws : List V} {xs : List D} (S : Stt K H0 Oc P O σ H δ π) (hi : i < δ.length) (np : ¬ O p) (h1 : H p = some (.lst ws)) (h2 : RS K (fun a => O a ∨ a = p) P σ H δ π) (h3 : RpAll K (fun a => O a ∨ a = p) H ws xs) (h4 : H0 p = none) (h6 : P ≠ some p) :
    Stt K H0 Oc P (fun a => O a ∨ a = p) (σ.set i (some (.ref p))) H (δ.set i (.own (.list xs))) π := by
  have R := h2.setOwn hi h1 h3 h6
  have nown : ∀ (j : Nat) (e : D), δ[j]? = some (.own e) → σ[j]? ≠ some (some (.ref p)) := fun j e k1 k2 => np (S.own j e p k1 k2).1
  have key : ∀ (j : Nat) (e : D) (a : Addr), (δ.set i (.own (.list xs)))[j]? = some (.own e) → (σ.set i (some (V.ref p)))[j]? = some (some (.ref a)) → (j = i ∧ a = p) ∨ (j ≠ i ∧ δ[j]? = some (.own e) ∧ σ[j]? = some (some (.ref a))) := fun j e a k1 k2 => by
    rw [List.getElem?_set] at k1 k2
    by_cases c : i = j
    · subst c
      rw [if_pos rfl] at k2
      split at k2
      · cases k2; exact .inl ⟨rfl, rfl⟩
      · cases k2
    · rw [if_neg c] at k1 k2
      exact .inr ⟨Ne.symm c, k1, k2⟩
  refine ⟨R, fun a h => .inl (S.sub a h), S.pot, S.ok0, fun j e a k1 k2 => ?_, fun j l e g a hjl k1 k2 k3 k4 => ?_, S.keep⟩
  · rcases key j e a k1 k2 with ⟨_, rfl⟩ | ⟨_, k3, k4⟩
    · exact ⟨.inr rfl, h4⟩
    · exact ⟨.inl (S.own j e a k3 k4).1, (S.own j e a k3 k4).2⟩
  · rcases key j e a k1 k3 with ⟨rfl, rfl⟩ | ⟨_, k5, k6⟩
    · rcases key l g _ k2 k4 with ⟨rfl, _⟩ | ⟨_, k7, k8⟩
      · exact hjl rfl
      · exact nown l g k7 k8
    · rcases key l g a k2 k4 with ⟨rfl, rfl⟩ | ⟨_, k7, k8⟩
      · exact nown j e k5 k6
      · exact S.dis j l e g a hjl k5 k7 k6 k8
theorem Vl.notO {Ob : Addr → Prop} {Hb : Hp} {fr : Bool} {p : Addr} {xs : List D} (V1 : Vl K H0 Oc P Ob Hb O σ H δ π fr (.ref p) (.list xs)) : ¬ O p := by
  cases V1.rp with
  | lst _ n _ => exact n
theorem Vl.assign {Ob : Addr → Prop} {Hb : Hp} {fr : Bool} {i : Nat} (V1 : Vl K H0 Oc P Ob Hb O σ H δ π fr v d) (hi : i < δ.length) :
    ∃ O2, Stt K H0 Oc P O2 (σ.set i (some v)) H (δ.set i (mkSl fr d)) π ∧ Ev Ob Hb O2 H := by
  by_cases c : fr = true ∧ ∃ xs, d = .list xs
  · obtain ⟨rfl, xs, rfl⟩ := c
    obtain ⟨p, ws, rfl, h1, h2, h3, h4, h5, h6⟩ := V1.fr rfl xs rfl
    exact ⟨_, V1.st.assignOwn hi V1.notO h1 h2 h3 h4 h6, ⟨fun a h => h.elim (V1.ev.o a) fun z => .inr (z ▸ h5), V1.ev.h⟩⟩
  · rw [mkSl_val c]
    exact ⟨O, V1.st.updS (Upd.one V1.st.rs.len hi V1.rp), V1.ev⟩
/-- an own list is changed -/
theorem Stt.write {x : Nat} {xs ys : List D} {a : Addr} {ws : List V} (S : Stt K H0 Oc P O σ H δ π) (hx : δ[x]? = some (.own (.list xs))) (ha : σ[x]? = some (some (.ref a))) (r : RpAll K O H ws ys) :
    Stt K H0 Oc P O σ (upd H a (.lst ws)) (δ.set x (.own (.list ys))) π ∧ Ev O H O (upd H a (.lst ws)) ∧ Frm O H (upd H a (.lst ws)) := by
  have R := S.rs
  obtain ⟨oa, h0⟩ := S.own x _ a hx ha
  obtain ⟨a', vs, ds, e1, e2, e3, e4, e5⟩ := R.own x _ hx
  rw [ha] at e2; cases e2
  have fr : Frm O H (upd H a (.lst ws)) := fun b o n eb => by
    by_cases c : b = a
    · subst c
      rw [e3] at eb; cases eb
      rcases n with n | n
      · exact absurd oa n
      · exact absurd rfl (n vs)
    · rw [upd_ne c]; exact eb
  have hxl : x < δ.length := (List.getElem?_eq_some_iff.mp hx).1
  have key : ∀ (j : Nat) (s : Sl), (δ.set x (.own (.list ys)))[j]? = some s → (j = x ∧ s = .own (.list ys)) ∨ (j ≠ x ∧ δ[j]? = some s) := fun j s e => by
    rw [List.getElem?_set] at e
    by_cases c : x = j
    · subst c
      rw [if_pos rfl, if_pos hxl] at e
      exact .inl ⟨rfl, (Option.some.inj e).symm⟩
    · rw [if_neg c] at e
      exact .inr ⟨Ne.symm c, e⟩
  refine ⟨⟨⟨by simpa using R.len, fun j d e => ?_, fun j d e => ?_, fun j e => ?_, fun j ns e => ?_, fun p e => ?_, fun b h => ?_⟩, S.sub, S.pot, S.ok0, fun j d b h1 h2 => ?_, fun i j d e b hij h1 h2 h3 => ?_, fun b o n eb => ?_⟩, ⟨fun b h => .inl h, fun b o n eb => by rw [upd_ne (fun z : b = a => n (by rw [z]; exact oa))]; exact eb⟩, fr⟩
  · rcases key j _ e with ⟨_, z⟩ | ⟨_, k1⟩
    · cases z
    · obtain ⟨v, k2, k3⟩ := R.val j d k1
      exact ⟨v, k2, Rp.frame fr _ _ k3⟩
  · rcases key j _ e with ⟨rfl, z⟩ | ⟨n, k1⟩
    · cases z; exact ⟨a, ws, ys, rfl, ha, upd_same, RpAll.frame fr _ _ r, e5⟩
    · obtain ⟨b, vs', ds', k2, k3, k4, k5, k6⟩ := R.own j d k1
      refine ⟨b, vs', ds', k2, k3, ?_, RpAll.frame fr _ _ k5, k6⟩
      rw [upd_ne (fun z : b = a => S.dis x j _ _ a (Ne.symm n) hx k1 ha (by rw [← z]; exact k3))]
      exact k4
  · rcases key j _ e with ⟨_, z⟩ | ⟨_, k1⟩
    · cases z
    · exact R.pot j k1
  · rcases key j _ e with ⟨_, z⟩ | ⟨_, k1⟩
    · cases z
    · obtain ⟨b, k2, k3⟩ := R.scr j ns k1
      refine ⟨b, k2, ?_⟩
      rcases k3 with ⟨o, k3⟩ | k3
      · exact .inl ⟨o, by rw [upd_ne (fun z : b = a => by rw [z, e3] at k3; cases k3)]; exact k3⟩
      · exact .inr k3
  · obtain ⟨k1, i, j, k2, k3⟩ := R.at_ p e
    exact ⟨k1, i, j, k2, by rw [upd_ne (fun z : p = a => e5 (by rw [← z]; exact e))]; exact k3⟩
  · by_cases c : b = a
    · subst c; exact ⟨ws, upd_same⟩
    · obtain ⟨k1, k2⟩ := R.in_ b h
      exact ⟨k1, by rw [upd_ne c]; exact k2⟩
  · rcases key j _ h1 with ⟨rfl, z⟩ | ⟨_, k1⟩
    · rw [ha] at h2; cases h2; exact ⟨oa, h0⟩
    · exact S.own j d b k1 h2
  · have f : ∀ (j : Nat) (d : D), (δ.set x (.own (.list ys)))[j]? = some (.own d) → ∃ d', δ[j]? = some (.own d') := fun j d h => by
      rcases key j _ h with ⟨rfl, _⟩ | ⟨_, k1⟩
      · exact ⟨_, hx⟩
      · exact ⟨d, k1⟩
    obtain ⟨d', k1⟩ := f i d h1
    obtain ⟨e', k2⟩ := f j e h2
    exact S.dis i j d' e' b hij k1 k2 h3
  · rw [upd_ne (fun z => by rw [z, h0] at eb; cases eb)]
    exact S.keep b o n eb
end
end Z
/-! statements -/
namespace Z
open PySem L2 PySem.Spec PyProof.Rows
def EndOk (K : PySem.W.Frag) (H0 : Hp) (Oc : Addr → Prop) (P : Option Addr) (Ob : Addr → Prop) (Hb : Hp) (D : Ends) : Fl → Prop
  | .nx δ π => ∀ O σ H, Stt K H0 Oc P O σ H δ π → Ev Ob Hb O H → D.nx σ H
  | .rt d fr π => ∀ v H, SameX P H0 H → PotAt P H π → Rp K Oc H v d → (fr = true → FreshV K Oc H0 H v d) → D.rt v H
def tS (Γ : Tab) (K : PySem.W.Frag) (ex : Nat → Dl → Pot → Option Fl) : TS := fun D σ H => ∃ H0 Oc P O δ π n fl, Stt K H0 Oc P O σ H δ π ∧ ex n δ π = some fl ∧ EndOk K H0 Oc P O H D fl
section
variable {X : Cx} {Γ : Tab} {k : Nat} {N : List Str} {sc scope : Scope} {x a b c e e2 : E} {f g tg : Expr} {t t' : TE} {pos p0 : Pos}
variable {O W Oc Ob : Addr → Prop} {P : Option Addr} {σ σ' : L2.St} {H H' H0 Hb : Hp} {δ δ' : Dl} {π π' : Pot} {d : D} {v : V} {Dn : Ends} {fl : Fl} {K : PySem.W.Frag}
theorem psImp {st : Stmt} {t t' : TS} (h : PS X st t) (i : ∀ D σ H, t' D σ H → t D σ H) : PS X st t' := ⟨fun pins s σ H D I q => h.run pins s σ H D I (i D σ H q)⟩
theorem psRun {st : Stmt} {t' : TS} (h : ∀ pins s σ H D, Inv X pins σ H s → t' D σ H → ∃ t, PS X st t ∧ t D σ H) : PS X st t' := ⟨fun pins s σ H D I q => by
  obtain ⟨t, h1, h2⟩ := h pins s σ H D I q
  exact h1.run pins s σ H D I h2⟩
theorem EndOk.back (h : EndOk K H0 Oc P O H Dn fl) (e : Ev O H W H') : EndOk K H0 Oc P W H' Dn fl := by
  cases fl with
  | nx δ π => exact fun O' σ H'' S e2 => h O' σ H'' S (e.trans e2)
  | rt d fr π => exact h
/-! name = e -/
theorem asg_rd {i : Nat} {ex : Nat → Dl → Pot → Option Fl} (hx : ∀ n δ π fl, ex n δ π = some fl → ∃ d π1, evE Γ e δ π = some (d, π1) ∧ i < δ.length ∧ fl = .nx ((demote δ (keeps Γ e)).set i (mkSl (fresh Γ e) d)) π1) (h : tS Γ K ex Dn σ H) :
    tE Γ K e σ H fun v H1 => Dn.nx (σ.set i (some v)) H1 := by
  obtain ⟨H0, Oc, P, O, δ, π, n, fl, S, ev, q⟩ := h
  obtain ⟨d, π1, e1, hi, rfl⟩ := hx n δ π fl ev
  refine S.eval e1 fun O1 v H1 s p V1 => ?_
  obtain ⟨O2, S2, E2⟩ := V1.assign (i := i) (by rw [demote_len]; exact hi)
  exact q O2 _ H1 S2 E2
theorem ex_asg {i : Nat} : ∀ n δ π fl, exS Γ (.asg i e) n δ π = some fl → ∃ d π1, evE Γ e δ π = some (d, π1) ∧ i < δ.length ∧ fl = .nx ((demote δ (keeps Γ e)).set i (mkSl (fresh Γ e) d)) π1 := fun n δ π fl ev => by
  simp only [exS] at ev
  obtain ⟨⟨d, π1⟩, e1, ev⟩ := bind_some ev
  simp only at ev
  split at ev
  · rename_i hi; cases ev; exact ⟨d, π1, e1, hi, rfl⟩
  · cases ev
theorem s_set (G : Good Γ k N sc X) {i : Nat} {y : Str} (hi : N[i]? = some y) (hy : locB sc y = true) (he : PE X f (tE Γ X.K e)) (hs : swapsWith f (some (.Name y p0)) pos.line X.env = pure false) : PS X (.Assign [.Name y p0] f pos) (tS Γ X.K (exS Γ (.asg i e))) := by
  obtain ⟨l1, l2⟩ := G.loc hy
  exact psImp (ps_set (by rw [G.N_]; exact G.nd) (by rw [G.N_]; exact hi) l1 he hs l2) fun D σ H h => asg_rd ex_asg h
theorem s_setLc (G : Good Γ k N sc X) {i : Nat} {y : Str} {elt : E} {pt : Pt} {it : It} {own : List (Str × Nat)} {cond : Oe} {ix : Expr} {ifs : List Expr} {p2 : Pos} (hi : N[i]? = some y) (hy : sc.names.lookup y = some .local) (C : CompOk Γ X elt pt it own cond scope f tg ix ifs)
    (hl : (p0.line == p2.line) = true) (ha : (scope.names.any fun (n, k) => n == y && (k == .local || k == .cell)) = false) (hk : X.env.scope.kind = .function) :
    PS X (.Assign [.Name y p0] (.ListComp f [⟨tg, ix, ifs, 0⟩] scope p2) pos) (tS Γ X.K (exS Γ (.asg i (.comp elt pt it own cond)))) := by
  obtain ⟨q', e1, e2⟩ := G.kinds y _ hy
  have hyl : X.env.scope.names.lookup y = some .local := by rcases e2 with rfl | ⟨z, _⟩; exact e1; cases z
  refine psImp (ps_setLc G.calm (by rw [G.N_]; exact G.nd) (by rw [G.N_]; exact hi) hyl (sw_true hk hyl hl ha) C.hi C.ok C.hg C.ht C.he C.fo) fun D σ H h => ?_
  exact comp_rd C.sl (asg_rd ex_asg h)
theorem sw_false {y : Str} {l : Nat} {env : Env} {p2 : Pos} {gs : List Comprehension} (hl : (p0.line == p2.line) = false) : swapsWith (.ListComp f gs scope p2) (some (.Name y p0)) l env = pure false := by
  unfold swapsWith
  simp only [Expr.pos, hl]
  simp
/-! a tuple's names -/
theorem sw_tup {es : List Expr} {kk : Nat} {p2 : Pos} {l : Nat} {env : Env} : swapsWith f (some (.Tuple es kk p2)) l env = pure false := by cases f <;> rfl
theorem sw_sub {o i : Expr} {p2 : Pos} {l : Nat} {env : Env} : swapsWith f (some (.Subscript o i p2)) l env = pure false := by cases f <;> rfl
theorem s_asgT (G : Good Γ k N sc X) {p : Pt} {es : List Expr} {kk : Nat} {p2 : Pos} (ht : chkPt N p sc (.Tuple es kk p2) = true) (he : PE X f (tE Γ X.K e)) (hw : swappedStores [.Tuple es kk p2] f X.env = pure none) : PS X (.Assign [.Tuple es kk p2] f pos) (tS Γ X.K (exS Γ (.asgT p e))) := by
  refine psImp (ps_asg he (snd_pt G p _ ht) (show swapsWith f (some (.Tuple es kk p2)) pos.line X.env = pure false from sw_tup) hw) fun D σ H ⟨H0, Oc, P, O, δ, π, n, fl, S, ev, q⟩ => ?_
  simp only [exS] at ev
  obtain ⟨⟨d, π1⟩, e1, ev⟩ := bind_some ev
  obtain ⟨δ1, e2, ev⟩ := bind_some ev
  cases ev
  refine S.eval e1 fun O1 v H1 s p1 V1 => ?_
  exact ⟨O1, d, _, δ1, V1.rp, by rw [demote_len]; exact S.rs.len, e2, fun σ' u => q O1 _ H1 (V1.st.updS u) V1.ev⟩
/-! return, expressions -/
theorem ret_own {i : Nat} (S : Stt K H0 Oc P O σ H δ π) {xs : List D} (h : δ[i]? = some (.own (.list xs))) (h2 : σ[i]? = some (some v)) : FreshV K Oc H0 H v (.list xs) := fun ys e => by
  cases e
  obtain ⟨a, vs, ds, e1, e2, e3, e4, _⟩ := S.rs.own i _ h
  rw [h2] at e2; cases e2; cases e1
  have := S.own i _ a h h2
  exact ⟨a, vs, rfl, this.2, e3, RpAll.less (fun b z => z.elim (S.sub b) fun z => by rw [z]; exact this.1) _ _ e4⟩
theorem s_ret (G : Good Γ k N sc X) (he : chkE N e sc f = true) (hf : PE X f (tE Γ X.K e)) : PS X (.Return (some f) pos) (tS Γ X.K (exS Γ (.ret e))) := by
  have gen : ∀ D σ H, (∃ H0 Oc P O δ π d π1 fr, Stt X.K H0 Oc P O σ H δ π ∧ evE Γ e δ π = some (d, π1) ∧ (fr = true → fresh Γ e = true) ∧ EndOk X.K H0 Oc P O H D (.rt d fr π1)) → tE Γ X.K e σ H D.rt := fun D σ H ⟨H0, Oc, P, O, δ, π, d, π1, fr, S, e1, hfr, q⟩ => by
    refine S.eval e1 fun O1 v H1 s p1 V1 => ?_
    refine q v H1 V1.st.keep p1 (Rp.less V1.st.sub _ _ V1.rp) fun z xs hx => ?_
    obtain ⟨p, ws, h1, h2, h3, h4, h5, h6, h7⟩ := V1.fr (hfr z) xs hx
    exact ⟨p, ws, h1, h5, h2, RpAll.less (fun b z => z.imp (V1.st.sub b) id) _ _ h4⟩
  cases e with
  | var i =>
    have h' : isNm N sc i f = true := he
    refine psImp (ps_ret (pe_nm G h')) fun D σ H ⟨H0, Oc, P, O, δ, π, n, fl, S, ev, q⟩ => ?_
    simp only [exS] at ev
    obtain ⟨⟨d, π1⟩, e1, ev⟩ := bind_some ev
    simp only [isVar] at ev
    cases ev
    simp only [evE] at e1
    split at e1
    · rename_i d' h1
      cases e1
      obtain ⟨v, h2, r⟩ := S.rs.val i d h1
      refine ⟨v, h2, q v H S.keep S.rs.potAt (Rp.less S.sub _ _ r) fun z => ?_⟩
      rw [h1] at z; cases z
    · rename_i d' h1
      cases e1
      obtain ⟨a, vs, ds, rfl, h2, h3, h4, h5⟩ := S.rs.own i d h1
      refine ⟨_, h2, q _ H S.keep S.rs.potAt ?_ fun _ => ret_own S h1 h2⟩
      refine .lst h3 (fun z => ?_) (RpAll.less S.sub _ _ h4)
      obtain ⟨_, z2⟩ := S.ok0 a z
      rw [(S.own i _ a h1 h2).2] at z2; cases z2
    · cases e1
  | _ =>
    refine psImp (ps_ret hf) fun D σ H ⟨H0, Oc, P, O, δ, π, n, fl, S, ev, q⟩ => ?_
    simp only [exS] at ev
    obtain ⟨⟨d, π1⟩, e1, ev⟩ := bind_some ev
    simp only [isVar] at ev
    cases ev
    exact gen D σ H ⟨H0, Oc, P, O, δ, π, d, π1, _, S, e1, fun z => z, q⟩
theorem s_exp (hf : PE X f (tE Γ X.K e)) (hs : swapsWith f none pos.line X.env = pure false) : PS X (.Expr f pos) (tS Γ X.K (exS Γ (.exp e))) := by
  refine psImp (ps_expr hf hs) fun D σ H ⟨H0, Oc, P, O, δ, π, n, fl, S, ev, q⟩ => ?_
  simp only [exS] at ev
  obtain ⟨⟨d, π1⟩, e1, ev⟩ := bind_some ev
  cases ev
  refine ⟨_, P, δ, π, d, π1, (S.lessK (keeps Γ e)).1, e1, (S.lessK (keeps Γ e)).2, fun v H1 s p r _ => ?_⟩
  exact q O σ H1 (S.next s p) (S.evn s)
theorem s_raise {st : Stmt} : PS X st (tS Γ X.K (exS Γ .raise)) := psImp ps_never fun D σ H ⟨H0, Oc, P, O, δ, π, n, fl, S, ev, q⟩ => by
  simp only [exS] at ev; cases ev
/-! one after another, if -/
theorem s_nil : PSs X [] (tS Γ X.K (exSs Γ .nil)) := ⟨fun pins s σ H D I ⟨H0, Oc, P, O, δ, π, n, fl, S, ev, q⟩ => by
  simp only [exSs] at ev
  cases ev
  exact pss_nil.run pins s σ H D I (q O σ H S Ev.refl)⟩
theorem s_cons {st : Stmt} {sts : List Stmt} {s : S} {ss : Ss} (h1 : PS X st (tS Γ X.K (exS Γ s))) (h2 : PSs X sts (tS Γ X.K (exSs Γ ss))) : PSs X (st :: sts) (tS Γ X.K (exSs Γ (.cons s ss))) := ⟨fun pins s' σ H D I ⟨H0, Oc, P, O, δ, π, n, fl, S, ev, q⟩ => by
  simp only [exSs] at ev
  obtain ⟨f1, e1, ev⟩ := bind_some ev
  refine (pss_cons h1 h2).run pins s' σ H D I ⟨H0, Oc, P, O, δ, π, n, f1, S, e1, ?_⟩
  cases f1 with
  | nx δ1 π1 => exact fun O1 σ1 H1 S1 E1 => ⟨H0, Oc, P, O1, δ1, π1, n, fl, S1, ev, q.back E1⟩
  | rt d fr π1 => cases ev; exact q⟩
theorem s_if {c : E} {aa bb : List Stmt} {sa sb : Ss} (hc : PT X f (tT Γ X.K c)) (ha : PSs X aa (tS Γ X.K (exSs Γ sa))) (hb : PSs X bb (tS Γ X.K (exSs Γ sb))) : PS X (.If f aa bb pos) (tS Γ X.K (exS Γ (.ifS c sa sb))) := by
  refine psImp (ps_if hc ha hb) fun D σ H ⟨H0, Oc, P, O, δ, π, n, fl, S, ev, q⟩ => ?_
  simp only [exS] at ev
  obtain ⟨⟨d, π1⟩, e1, ev⟩ := bind_some ev
  obtain ⟨b, e2, ev⟩ := bind_some ev
  obtain rfl := asBool_some e2
  refine ⟨O, P, δ, π, b, π1, S.rs, e1, fun H1 s p => ?_⟩
  have S1 := S.next s p
  cases b with
  | true => exact ⟨H0, Oc, P, O, δ, π1, n, fl, S1, by simpa using ev, q.back (S.evn s)⟩
  | false => exact ⟨H0, Oc, P, O, δ, π1, n, fl, S1, by simpa using ev, q.back (S.evn s)⟩
/-! while -/
theorem s_whl {c : E} {bb : List Stmt} {sb : Ss} (hp : PassesOwn (model X.prog X.w) X.A X.env X.xe) (hc : PT X f (tT Γ X.K c)) (hb : PSs X bb (tS Γ X.K (exSs Γ sb))) : PS X (.While f bb [] pos) (tS Γ X.K (exS Γ (.whl c sb))) := by
  refine psImp (ps_while hp hc hb) fun D σ H ⟨H0, Oc, P, O, δ, π, n, fl, S, ev, q⟩ => ?_
  simp only [exS] at ev
  refine ⟨fun m σ H => ∃ O δ π, Stt X.K H0 Oc P O σ H δ π ∧ whlL (fun δ π => do let (d, π) ← evE Γ c δ π; let k ← asBool d; pure (k, π)) (fun δ π => exSs Γ sb n δ π) m δ π = some fl ∧ EndOk X.K H0 Oc P O H D fl, ⟨n, O, δ, π, S, ev, q⟩, ?_⟩
  rintro m σ1 H1 ⟨O1, δ1, π1, S1, ev1, q1⟩
  cases m with
  | zero => simp [whlL] at ev1
  | succ m =>
    simp only [whlL] at ev1
    obtain ⟨⟨b, π2⟩, e1, ev1⟩ := bind_some ev1
    obtain ⟨⟨d, π3⟩, e2, e1⟩ := bind_some e1
    obtain ⟨b', e3, e1⟩ := bind_some e1
    cases e1
    obtain rfl := asBool_some e3
    refine ⟨O1, P, δ1, π1, b, π3, S1.rs, e2, fun H2 s p => ?_⟩
    have S2 := S1.next s p
    have q2 := q1.back (S1.evn s)
    cases b with
    | false =>
      simp only [Bool.false_eq_true, if_false] at ev1 ⊢
      cases ev1
      exact q2 O1 σ1 H2 S2 Ev.refl
    | true =>
      simp only [if_true] at ev1 ⊢
      obtain ⟨f1, e4, ev1⟩ := bind_some ev1
      refine ⟨fun σ H => ∃ O δ π, Stt X.K H0 Oc P O σ H δ π ∧ whlL (fun δ π => do let (d, π) ← evE Γ c δ π; let k ← asBool d; pure (k, π)) (fun δ π => exSs Γ sb n δ π) m δ π = some fl ∧ EndOk X.K H0 Oc P O H D fl, fun σ' H' w => ⟨m, Nat.lt_succ_self m, w⟩, ?_⟩
      refine ⟨H0, Oc, P, O1, δ1, π3, n, f1, S2, e4, ?_⟩
      cases f1 with
      | nx δ4 π4 => exact fun O4 σ4 H4 S4 E4 => ⟨O4, δ4, π4, S4, ev1, q2.back E4⟩
      | rt d fr π4 => cases ev1; exact q2
/-! for -/
theorem peeks_sub (x : E) : ∀ i ∈ peeks Γ x, i ∈ keeps Γ x := by
  cases x <;> intro i h <;> first | exact h | (simp [peeks] at h; done) | (simpa [peeks, keeps] using h)
theorem keepsI_sub (x : It) : ∀ i ∈ keepsI Γ x, i ∈ keepsF Γ x := by
  cases x with
  | seq a => exact peeks_sub a
  | rng a => intro i h; simp [keepsI] at h
  | rng2 a b => intro i h; simp [keepsI] at h
  | zip a b => intro i h; simp only [keepsI, keepsF, List.mem_append] at h ⊢; exact h.imp (peeks_sub a i) (peeks_sub b i)
  | enum a => exact peeks_sub a
theorem s_for (G : Good Γ k N sc X) {p : Pt} {it : It} {ix : Expr} {bb : List Stmt} {sb : Ss} (hp : PassesOwn (model X.prog X.w) X.A X.env X.xe) (hi : PI X tg ix (tI Γ X.K it)) (hg : PG X tg (tG X.K p)) (hb : PSs X bb (tS Γ X.K (exSs Γ sb))) (hs : ∀ x, foldedSetIterable ix X.env x = pure x) :
    PS X (.For tg ix bb [] pos) (tS Γ X.K (exS Γ (.forS p it sb))) := by
  refine psImp (ps_for hp G.calm hi hg hb hs) fun D σ H ⟨H0, Oc, P, O, δ, π, n, fl, S, ev, q⟩ => ?_
  simp only [exS] at ev
  obtain ⟨⟨ds, π1⟩, e1, ev⟩ := bind_some ev
  obtain ⟨R, ko⟩ := S.lessK (keepsF Γ it)
  have S1 := S.demote (keepsF Γ it)
  refine ⟨_, fun a => O a ∧ ¬ Kept σ δ (keepsF Γ it) a, P, δ, π, ds, π1, R, ⟨fun p e => (R.at_ p e).1, fun a h => h⟩, e1, ko.mono (keepsI_sub it), ko, fun J H1 s p1 ok => ?_⟩
  obtain ⟨Gw, Y, wk, hw⟩ := ok
  generalize hO1 : (fun a => O a ∧ ¬ Kept σ δ (keepsF Γ it) a) = O1 at *
  have S2 := S1.next s p1
  have E2 : Ev O H O1 H1 := by
    rw [← hO1]
    exact (Ev.less fun a h => h.1).trans (hO1 ▸ S1.evn s)
  have q2 := q.back E2
  refine for_it wk (fun i σ' Hc => ∃ O' δ' π', Stt X.K H0 Oc P O' σ' Hc δ' π' ∧ Ev O1 H1 O' Hc ∧ forL (asgP p) (fun δ π => exSs Γ sb n δ π) (ds.drop i) δ' π' = some fl) ?_ ?_ ?_ ?_
  · exact ⟨O1, _, π1, S2, Ev.refl, by simpa using ev⟩
  · rintro i σ' Hc _ ⟨O', δ', π', S', E', _⟩
    exact (hw O' Hc E'.o E'.h).1
  · rintro i xv σ' Hc Hd hlt ⟨O', δ', π', S', E', ev'⟩ hy
    obtain ⟨sm, di, hdi, rdi⟩ := (hw O' Hc E'.o E'.h).2 i xv Hd hlt hy
    rw [list_at hdi] at ev'
    simp only [forL] at ev'
    obtain ⟨δ1, a1, ev'⟩ := bind_some ev'
    obtain ⟨f1, b1, ev'⟩ := bind_some ev'
    have SD := S'.next (SameX.of sm) (S'.rs.potAt.same sm)
    have ED := E'.trans (S'.evn (SameX.of sm))
    refine ⟨O', di, δ', δ1, rdi, S'.rs.len, a1, fun σ2 u => ?_⟩
    refine ⟨H0, Oc, P, O', δ1, π', n, f1, SD.updS u, b1, ?_⟩
    cases f1 with
    | nx δ3 π3 => exact fun O3 σ3 H3 S3 E3 => ⟨O3, δ3, π3, S3, ED.trans E3, ev'⟩
    | rt d fr π3 => cases ev'; exact q2
  · rintro σ' Hc ⟨O', δ', π', S', E', ev'⟩
    rw [List.drop_length] at ev'
    simp only [forL] at ev'
    cases ev'
    exact q2 O' σ' Hc S' E'
end
end Z
namespace Z
open PySem L2 PySem.Spec PyProof.Rows
section
variable {X : Cx} {Γ : Tab} {k : Nat} {N : List Str} {sc scope : Scope} {x a b c e e2 : E} {f g tg : Expr} {t t' : TE} {pos p0 : Pos}
variable {O W Oc Ob : Addr → Prop} {P : Option Addr} {σ σ' : L2.St} {H H' H0 Hb : Hp} {δ δ' : Dl} {π π' : Pot} {d : D} {v : V} {Dn : Ends} {fl : Fl} {K : PySem.W.Frag}
theorem Stt.back0 (S : Stt K H0 Oc P O σ H δ π) {p : Addr} (hp : H p = none) : H0 p = none ∧ P ≠ some p := by
  have hP : P ≠ some p := fun z => by obtain ⟨_, _, _, _, e⟩ := S.rs.at_ p z; rw [hp] at e; cases e
  refine ⟨?_, hP⟩
  cases q0 : H0 p with
  | none => rfl
  | some u => rw [S.keep p u hP q0] at hp; cases hp
theorem par2_rd {i j : Nat} {d1 d2 : D} {π1 π2 : Pot} (S : Stt K H0 Oc P O σ H δ π) (e1 : evE Γ a δ π = some (d1, π1)) (e2 : evE Γ b δ π1 = some (d2, π2)) (hi : i < δ.length) (hj : j < δ.length) {C : V → V → Hp → Prop}
    (q : ∀ O2 v1 v2 H2, Stt K H0 Oc P O2 ((σ.set i (some v1)).set j (some v2)) H2 (((demote δ (keeps Γ a ++ keeps Γ b)).set i (mkSl (fresh Γ a) d1)).set j (mkSl (fresh Γ b) d2)) π2 → Ev O H O2 H2 → C v1 v2 H2) :
    tE Γ K a σ H fun v1 H1 => tE Γ K b σ H1 fun v2 H2 => C v1 v2 H2 := by
  obtain ⟨R, ko⟩ := S.lessK (keeps Γ a ++ keeps Γ b)
  have S1 := S.demote (keeps Γ a ++ keeps Γ b)
  have E1 : Ev O H (fun a' => O a' ∧ ¬ Kept σ δ (keeps Γ a ++ keeps Γ b) a') H := Ev.less fun a h => h.1
  generalize (fun a' => O a' ∧ ¬ Kept σ δ (keeps Γ a ++ keeps Γ b) a') = O1 at *
  refine ⟨O1, P, δ, π, d1, π1, R, e1, ko.left, fun v1 H1 s1 p1 r1 f1 => ?_⟩
  have S1' := S1.next s1 p1
  have hl : i < (demote δ (keeps Γ a ++ keeps Γ b)).length := by rw [demote_len]; exact hi
  have mid : ∃ O', RS K O' P σ H1 δ π1 ∧ KOk O' σ δ (keeps Γ b) ∧ Stt K H0 Oc P O' (σ.set i (some v1)) H1 ((demote δ (keeps Γ a ++ keeps Γ b)).set i (mkSl (fresh Γ a) d1)) π1 ∧ Ev O H O' H1 := by
    by_cases c : fresh Γ a = true ∧ ∃ xs, d1 = .list xs
    · obtain ⟨c1, xs, rfl⟩ := c
      obtain ⟨p, ws, rfl, hp, h3, h4⟩ := f1 c1 xs rfl
      obtain ⟨b1, b2⟩ := S1.back0 hp
      have np : ¬ O1 p := by cases r1 with | lst _ n _ => exact n
      refine ⟨_, R.more hp s1 p1 h3, fun j hj d' a' o1 o2 z => ?_, ?_, ⟨fun a' h => h.elim ((E1.trans (S1.evn s1)).o a') fun z => .inr (by rw [z]; exact hp), (E1.trans (S1.evn s1)).h⟩⟩
      · rcases z with z | z
        · exact ko.right j hj d' a' o1 o2 z
        · obtain ⟨a2, vs, es', _, o3, o4, _, _⟩ := R.own j d' o1
          rw [o2] at o3; cases o3
          rw [z, hp] at o4; cases o4
      · rw [c1]; exact S1'.assignOwn hl np h3 (S1.rs.more hp s1 p1 h3) h4 b1 b2
    · rw [mkSl_val c]
      exact ⟨O1, R.next s1 p1, ko.right, S1'.updS (Upd.one S1'.rs.len hl r1), E1.trans (S1.evn s1)⟩
  obtain ⟨O', R1, ko1, Sx, Ex⟩ := mid
  refine ⟨O', P, δ, π1, d2, π2, R1, e2, ko1, fun v2 H2 s2 p2 r2 f2 => ?_⟩
  have V2 : Vl K H0 Oc P O H O' (σ.set i (some v1)) H2 ((demote δ (keeps Γ a ++ keeps Γ b)).set i (mkSl (fresh Γ a) d1)) π2 (fresh Γ b) v2 d2 := by
    refine ⟨Sx.next s2 p2, Ex.trans (Sx.evn s2), r2, fun hf xs hx => ?_⟩
    obtain ⟨p, ws, h1, h2, h3, h4⟩ := f2 hf xs hx
    obtain ⟨b1, b2⟩ := Sx.back0 h2
    refine ⟨p, ws, h1, h3, Sx.rs.more h2 s2 p2 h3, h4, b1, ?_, b2⟩
    cases q0 : H p with
    | none => rfl
    | some u => rw [s1 p u b2 q0] at h2; cases h2
  obtain ⟨O2, S2, E2⟩ := V2.assign (i := j) (by rw [List.length_set, demote_len]; exact hj)
  exact q O2 v1 v2 H2 S2 E2
theorem swapped2 {x y : Str} {px py pt : Pos} {kt k2 : Nat} {pt2 : Pos} {f g : Expr} {env : Env} (hk : env.scope.kind = .function) (hx : env.scope.names.lookup x = some .local) (hy : env.scope.names.lookup y = some .local) (hxy : (x == y) = false) (hl : (py.line == px.line) = true)
    (nf : ∀ e p, f ≠ .Starred e p) (ng : ∀ e p, g ≠ .Starred e p) (h1 : [f, g].all (foldedForSure 8) = false) (h2 : [f, g].all (constantsAlone 8) = false) :
    swappedStores [.Tuple [.Name x px, .Name y py] kt pt] (.Tuple [f, g] k2 pt2) env = pure (some [x, y]) := by
  have kx : env.kindOf x = some .local := hx
  have ky : env.kindOf y = some .local := hy
  have hb : env.blockKind = .function := by unfold Env.blockKind; rw [hk]; rfl
  have hyx : (y == x) = false := by rw [beq_eq_false_iff_ne] at hxy ⊢; exact Ne.symm hxy
  have ed : ([x, y] : List Str).eraseDups = [x, y] := by
    simp [List.eraseDups_cons, hyx]
  unfold swappedStores
  simp only [hb, kx, ky, h1, h2, Expr.pos, List.head?_cons, Option.map_some, Option.getD_some, List.filterMap_cons, List.filterMap_nil, hl, beq_self_eq_true, Bool.and_self, if_true, List.length_cons, List.length_nil, ed]
  rw [if_neg (by decide), if_neg ?_, if_neg (by decide), if_neg (by decide), if_neg (by decide)]
  intro h
  rw [List.any_cons, List.any_cons, List.any_nil, Bool.or_false, Bool.or_eq_true] at h
  rcases h with h | h
  · split at h
    · exact nf _ _ rfl
    · cases h
  · split at h
    · exact ng _ _ rfl
    · cases h
theorem s_par2 (G : Good Γ k N sc X) {i j : Nat} {y z : Str} {px py pt pt2 : Pos} {kt k2 : Nat} (hi : N[i]? = some y) (hj : N[j]? = some z) (hij : i ≠ j) (hy : sc.names.lookup y = some .local) (hz : sc.names.lookup z = some .local)
    (hca : chkE N a sc f = true) (hcb : chkE N b sc g = true) (ha : PE X f (tE Γ X.K a)) (hb : PE X g (tE Γ X.K b)) (hk : X.env.scope.kind = .function) (hl : (py.line == px.line) = true) (h1 : [f, g].all (foldedForSure 8) = false) (h2 : [f, g].all (constantsAlone 8) = false) :
    PS X (.Assign [.Tuple [.Name y px, .Name z py] kt pt] (.Tuple [f, g] k2 pt2) pos) (tS Γ X.K (exS Γ (.par [i, j] (.cons a (.cons b .nil))))) := by
  have loc : ∀ {y}, sc.names.lookup y = some .local → X.env.scope.names.lookup y = some .local := fun hy => by
    obtain ⟨q', e1, e2⟩ := G.kinds _ _ hy
    rcases e2 with rfl | ⟨z, _⟩
    · exact e1
    · cases z
  have hyz : (y == z) = false := by
    rw [beq_eq_false_iff_ne]
    rintro rfl
    exact hij (nodup_ix G.nd hi hj)
  have nst : ∀ {x : E} {e : Expr}, chkE N x sc e = true → ∀ e' p, e ≠ .Starred e' p := fun {x e} h e' p z => by
    rw [z, notStar] at h; cases h
  have s1 := star1 hca [g] X.env
  have s2 := star1 hcb [] X.env
  refine psImp (ps_par (ta := tCons (tE Γ X.K a) (tCons (tE Γ X.K b) tNil)) G.calm (by rw [G.N_]; exact G.nd) (by rw [G.N_]; exact hi) (by rw [G.N_]; exact hj) hij (loc hy) (loc hz) (pa_cons ha (pa_cons hb pa_nil s2) s1) (swapped2 hk (loc hy) (loc hz) hyz hl (nst hca) (nst hcb) h1 h2)) fun D σ H ⟨H0, Oc, P, O, δ, π, n, fl, S, ev, q⟩ => ?_
  simp only [exS, evEs] at ev
  obtain ⟨⟨ds, π3⟩, e0, ev⟩ := bind_some ev
  obtain ⟨⟨d1, π1⟩, e1, e0⟩ := bind_some e0
  obtain ⟨⟨d2', π2'⟩, e2, e0⟩ := bind_some e0
  cases e0
  obtain ⟨⟨d2, π2⟩, e3, e2⟩ := bind_some e2
  cases e2
  obtain ⟨δ1, e4, ev⟩ := bind_some ev
  cases ev
  simp only [freshes, List.zipWith_cons_cons, List.zipWith_nil_right, List.zipWith_nil_left, setAll, keepsS, List.append_nil] at e4
  split at e4
  rotate_left
  · cases e4
  rename_i hi'
  split at e4
  rotate_left
  · cases e4
  rename_i hj'
  cases e4
  rw [demote_len] at hi'
  rw [List.length_set, demote_len] at hj'
  exact par2_rd S e1 e3 hi' hj' fun O2 v1 v2 H2 S2 E2 => ⟨v1, v2, rfl, q O2 _ H2 S2 E2⟩
end
end Z
namespace Z
open PySem L2 PySem.Spec PyProof.Rows
section
variable {X : Cx} {Γ : Tab} {k : Nat} {N : List Str} {sc scope : Scope} {x a b c e e2 : E} {f g tg : Expr} {t t' : TE} {pos p0 : Pos}
variable {O W Oc Ob : Addr → Prop} {P : Option Addr} {σ σ' : L2.St} {H H' H0 Hb : Hp} {δ δ' : Dl} {π π' : Pot} {d : D} {v : V} {Dn : Ends} {fl : Fl} {K : PySem.W.Frag}
theorem Stt.ownAt {i : Nat} {xs : List D} (S : Stt K H0 Oc P O σ H δ π) (h : δ[i]? = some (.own (.list xs))) : ∃ a vs, σ[i]? = some (some (.ref a)) ∧ H a = some (.lst vs) ∧ RpAll K O H vs xs := by
  obtain ⟨a, vs, ds, e1, e2, e3, e4, _⟩ := S.rs.own i _ h
  cases e1
  exact ⟨a, vs, e2, e3, e4⟩
theorem s_app (G : Good Γ k N sc X) {i : Nat} {ap cp : Pos} (hx : isNm N sc i g = true) (hc : chkE N e sc f = true) (he : PE X f (tE Γ X.K e)) (hl : (ap.endLine == cp.line) = true) : PS X (.Expr (.Call (.Attribute g "append" ap) [f] [] cp) pos) (tS Γ X.K (exS Γ (.app i e))) := by
  have hp := pe_nm G hx
  obtain ⟨y, py, rfl, _⟩ := nm_of hx
  have hst := star1 hc [] X.env
  refine psImp (ps_expr (pe_bm PySem.F.plainAttrs_list PySem.F.slot_list_append PySem.F.type_list_append mt_append hp (pa_cons he pa_nil hst) rfl (by rw [hst]; rfl) hl hst rfl) rfl) fun D σ H ⟨H0, Oc, P, O, δ, π, n, fl, S, ev, q⟩ => ?_
  simp only [exS] at ev
  obtain ⟨⟨d, π1⟩, e1, ev⟩ := bind_some ev
  simp only at ev
  split at ev
  rotate_left
  · cases ev
  rename_i xs hd
  split at ev
  rotate_left
  · cases ev
  rename_i hm
  cases ev
  obtain ⟨a, vs, h1, h2, _⟩ := S.ownAt (demote_own hd).2
  refine ⟨_, h1, .inl ⟨rfl, vs, SqL.of h2⟩, S.eval e1 fun O1 v H1 s p V1 => ?_⟩
  obtain ⟨a', vs', h3, h4, h5⟩ := V1.st.ownAt hd
  rw [h1] at h3; cases h3
  obtain ⟨S2, E2, _⟩ := V1.st.write hd h1 (h5.append (.cons V1.rp .nil))
  exact ⟨a, vs', v, rfl, rfl, h4, Nat.lt_of_lt_of_le (by rw [h5.length]; exact hm) maxSize_line, q O1 σ _ S2 (V1.ev.trans E2)⟩
theorem s_ext (G : Good Γ k N sc X) {i : Nat} {ap cp : Pos} (hx : isNm N sc i g = true) (hc : chkE N e sc f = true) (he : PE X f (tE Γ X.K e)) (hl : (ap.endLine == cp.line) = true) : PS X (.Expr (.Call (.Attribute g "extend" ap) [f] [] cp) pos) (tS Γ X.K (exS Γ (.ext i e))) := by
  have hp := pe_nm G hx
  obtain ⟨y, py, rfl, _⟩ := nm_of hx
  have hst := star1 hc [] X.env
  refine psImp (ps_expr (pe_bm PySem.F.plainAttrs_list PySem.F.slot_list_extend PySem.F.type_list_extend mt_extend hp (pa_cons he pa_nil hst) rfl (by rw [hst]; rfl) hl hst rfl) rfl) fun D σ H ⟨H0, Oc, P, O, δ, π, n, fl, S, ev, q⟩ => ?_
  simp only [exS] at ev
  obtain ⟨⟨d, π1⟩, e1, ev⟩ := bind_some ev
  simp only at ev
  split at ev
  rotate_left
  · cases ev
  rename_i ys xs hd
  split at ev
  rotate_left
  · cases ev
  rename_i hm
  cases ev
  obtain ⟨a, vs, h1, h2, _⟩ := S.ownAt (demote_own hd).2
  refine ⟨_, h1, .inl ⟨rfl, vs, SqL.of h2⟩, S.eval e1 fun O1 v H1 s p V1 => ?_⟩
  obtain ⟨a', vs', h3, h4, h5⟩ := V1.st.ownAt hd
  rw [h1] at h3; cases h3
  have hrp := V1.rp
  cases hrp with
  | @lst b zs _ r1 r2 r3 =>
    obtain ⟨S2, E2, _⟩ := V1.st.write hd h1 (h5.append r3)
    exact ⟨a, b, vs', zs, rfl, rfl, h4, r1, Nat.le_trans (by rw [h5.length, r3.length]; exact hm) maxSize_line, q O1 σ _ S2 (V1.ev.trans E2)⟩
theorem s_pop (G : Good Γ k N sc X) {i : Nat} {t : Pt} {ap cp : Pos} (hx : isNm N sc i g = true) (ht : chkPt N t sc tg = true) (hl : (ap.endLine == cp.line) = true) (h1' : (assignEach [tg] X.env).map (·.2) = [assign tg X.env]) : PS X (.Assign [tg] (.Call (.Attribute g "pop" ap) [] [] cp) pos) (tS Γ X.K (exS Γ (.pop t i))) := by
  have hp := pe_nm G hx
  obtain ⟨y, py, rfl, _⟩ := nm_of hx
  have hw : swappedStores [tg] (.Call (.Attribute (.Name y py) "pop" ap) [] [] cp) X.env = pure none := by cases tg <;> rfl
  refine psImp (ps_asg (pe_bm0 PySem.F.plainAttrs_list PySem.F.slot_list_pop PySem.F.type_list_pop mt_pop hp rfl hl) (snd_pt G t tg ht) rfl hw h1') fun D σ H ⟨H0, Oc, P, O, δ, π, n, fl, S, ev, q⟩ => ?_
  simp only [exS] at ev
  split at ev
  rotate_left
  · cases ev
  rename_i xs hd
  obtain ⟨d, e1, ev⟩ := bind_some ev
  obtain ⟨δ1, e2, ev⟩ := bind_some ev
  cases ev
  obtain ⟨a, vs, h1, h2, h5⟩ := S.ownAt hd
  obtain ⟨w, h6, h7⟩ := h5.get e1
  obtain ⟨S2, E2, fr⟩ := S.write hd h1 h5.dropLast
  refine ⟨_, h1, .inl ⟨rfl, vs, SqL.of h2⟩, a, vs, w, rfl, rfl, h2, by rw [h5.length]; exact h6, ?_⟩
  exact ⟨O, d, _, δ1, Rp.frame fr _ _ h7, S2.rs.len, e2, fun σ' u => q O σ' _ (S2.updS u) E2⟩
theorem s_popAt (G : Good Γ k N sc X) {i j : Nat} {ap cp : Pos} (hx : isNm N sc i g = true) (ht : chkPt N (.v j) sc tg = true) (hc : chkE N e sc f = true) (he : PE X f (tE Γ X.K e)) (hl : (ap.endLine == cp.line) = true) (h1' : (assignEach [tg] X.env).map (·.2) = [assign tg X.env]) : PS X (.Assign [tg] (.Call (.Attribute g "pop" ap) [f] [] cp) pos) (tS Γ X.K (exS Γ (.popAt j i e))) := by
  have hp := pe_nm G hx
  obtain ⟨y, py, rfl, _⟩ := nm_of hx
  have hst := star1 hc [] X.env
  have hw : swappedStores [tg] (.Call (.Attribute (.Name y py) "pop" ap) [f] [] cp) X.env = pure none := by cases tg <;> rfl
  refine psImp (ps_asg (pe_bm PySem.F.plainAttrs_list PySem.F.slot_list_pop PySem.F.type_list_pop mt_popAt hp (pa_cons he pa_nil hst) rfl (by rw [hst]; rfl) hl hst rfl) (snd_pt G (.v j) tg ht) rfl hw h1') fun D σ H ⟨H0, Oc, P, O, δ, π, n, fl, S, ev, q⟩ => ?_
  simp only [exS] at ev
  obtain ⟨⟨d0, π1⟩, e1, ev⟩ := bind_some ev
  obtain ⟨m, e2, ev⟩ := bind_some ev
  obtain rfl := asInt_some e2
  simp only at ev
  split at ev
  rotate_left
  · cases ev
  rename_i xs hd
  obtain ⟨kk, e3, ev⟩ := bind_some ev
  obtain ⟨d, e4, ev⟩ := bind_some ev
  split at ev
  rotate_left
  · cases ev
  rename_i hj
  cases ev
  obtain ⟨a, vs, h1, h2, _⟩ := S.ownAt hd
  refine ⟨_, h1, .inl ⟨rfl, vs, SqL.of h2⟩, low1 S.rs e1 fun v H1 s p R1 r1 => ?_⟩
  cases r1
  have S1 := S.next s p
  obtain ⟨a', vs', h3, h4, h5⟩ := S1.ownAt hd
  rw [h1] at h3; cases h3
  obtain ⟨w, h6, h7⟩ := h5.get e4
  obtain ⟨S2, E2, fr⟩ := S1.write hd h1 (h5.eraseIdx kk)
  have hl2 := h5.length
  rw [← hl2] at e3
  obtain ⟨i1, i2, i3, i4⟩ := ixN_seq e3
  have hms : vs'.length ≤ 1000000 := by rw [hl2]; exact hj.2
  refine ⟨a, vs', m, kk, w, rfl, rfl, h4, by omega, by omega, i1, h6, ?_⟩
  refine ⟨O, d, _, _, Rp.frame fr _ _ h7, S2.rs.len, ?_, fun σ' u => q O σ' _ (S2.updS u) ((S.evn s).trans E2)⟩
  simp only [asgP, List.length_set, if_pos hj.1]
theorem s_appPop (G : Good Γ k N sc X) {i j : Nat} {h : Expr} {ap cp ap2 cp2 : Pos} (hy : isNm N sc j h = true) (hx : isNm N sc i g = true) (hc : chkE N e sc f = true) (he : PE X f (tE Γ X.K e)) (hl : (ap.endLine == cp.line) = true) (hl2 : (ap2.endLine == cp2.line) = true) :
    PS X (.Expr (.Call (.Attribute h "append" ap2) [.Call (.Attribute g "pop" ap) [f] [] cp] [] cp2) pos) (tS Γ X.K (exS Γ (.appPop j i e))) := by
  have hp := pe_nm G hx
  have hq := pe_nm G hy
  obtain ⟨y, py, rfl, _⟩ := nm_of hx
  obtain ⟨y2, py2, rfl, _⟩ := nm_of hy
  have hst := star1 hc [] X.env
  refine psImp (ps_expr (pe_bm PySem.F.plainAttrs_list PySem.F.slot_list_append PySem.F.type_list_append mt_append hq (pa_cons (pe_bm PySem.F.plainAttrs_list PySem.F.slot_list_pop PySem.F.type_list_pop mt_popAt hp (pa_cons he pa_nil hst) rfl (by rw [hst]; rfl) hl hst rfl) pa_nil rfl) rfl rfl hl2 rfl rfl) rfl) fun D σ H ⟨H0, Oc, P, O, δ, π, n, fl, S, ev, q⟩ => ?_
  simp only [exS] at ev
  obtain ⟨⟨d0, π1⟩, e1, ev⟩ := bind_some ev
  obtain ⟨m, e2, ev⟩ := bind_some ev
  obtain rfl := asInt_some e2
  simp only at ev
  split at ev
  rotate_left
  · cases ev
  rename_i xs ys hd hdy
  obtain ⟨kk, e3, ev⟩ := bind_some ev
  obtain ⟨d, e4, ev⟩ := bind_some ev
  split at ev
  rotate_left
  · cases ev
  rename_i hj
  cases ev
  obtain ⟨a, vs, h1, h2, _⟩ := S.ownAt hd
  obtain ⟨b, ws, k1, k2, _⟩ := S.ownAt hdy
  refine ⟨_, k1, .inl ⟨rfl, ws, SqL.of k2⟩, _, h1, .inl ⟨rfl, vs, SqL.of h2⟩, low1 S.rs e1 fun v H1 s p R1 r1 => ?_⟩
  cases r1
  have S1 := S.next s p
  obtain ⟨a', vs', h3, h4, h5⟩ := S1.ownAt hd
  rw [h1] at h3; cases h3
  obtain ⟨w, h6, h7⟩ := h5.get e4
  obtain ⟨S2, E2, fr⟩ := S1.write hd h1 (h5.eraseIdx kk)
  have hl2 := h5.length
  rw [← hl2] at e3
  obtain ⟨i1, i2, i3, i4⟩ := ixN_seq e3
  have hms : vs'.length ≤ 1000000 := by rw [hl2]; exact hj.2.2
  refine ⟨a, vs', m, kk, w, rfl, rfl, h4, by omega, by omega, i1, h6, ?_⟩
  have hdy2 : (δ.set i (Sl.own (.list (xs.eraseIdx kk))))[j]? = some (.own (.list ys)) := by rw [List.getElem?_set, if_neg hj.1]; exact hdy
  obtain ⟨b', ws', k3, k4, k5⟩ := S2.ownAt hdy2
  rw [k1] at k3; cases k3
  obtain ⟨S3, E3, _⟩ := S2.write hdy2 k1 (k5.append (.cons (Rp.frame fr _ _ h7) .nil))
  exact ⟨b, ws', w, rfl, rfl, k4, Nat.lt_of_lt_of_le (by rw [k5.length]; exact hj.2.1) maxSize_line, q O σ _ S3 (((S.evn s).trans E2).trans E3)⟩
/-! stores -/
theorem sub_assign (h : chkE N b sc g = true) (o : Expr) (env : Env) (v : Value) : assign (.Subscript o g pos) env v = (do
      let ov ← holding [v] (eval o env)
      let iv ← holding [v, ov] (eval g env)
      standAt pos
      holding [v, ov, iv] (setItem ov iv v)
      release [v, ov, iv] []) := by
  cases g with
  | Slice l m s p => exact absurd (plain_ix h) (by
      have key : chkE N b sc (.Slice l m s p) = false := by
        cases b with
        | isi k a => cases k <;> rfl
        | _ => rfl
      rw [key] at h; cases h)
  | _ => rfl
theorem s_setI (G : Good Γ k N sc X) {i : Nat} {h : Expr} {p2 : Pos} (hx : isNm N sc i g = true) (hcb : chkE N b sc h = true) (he : PE X f (tE Γ X.K e)) (hb : PE X h (tE Γ X.K b)) : PS X (.Assign [.Subscript g h p2] f pos) (tS Γ X.K (exS Γ (.setI i b e))) := by
  have hp := pe_nm G hx
  refine psImp (ps_asg he (pg_sub hp hb set_list (sub_assign hcb g X.env)) (show swapsWith f (some (.Subscript g h p2)) pos.line X.env = pure false from sw_sub) rfl) fun D σ H ⟨H0, Oc, P, O, δ, π, n, fl, S, ev, q⟩ => ?_
  simp only [exS] at ev
  obtain ⟨⟨d, π1⟩, e1, ev⟩ := bind_some ev
  obtain ⟨⟨dj, π2⟩, e2, ev⟩ := bind_some ev
  obtain ⟨m, e3, ev⟩ := bind_some ev
  obtain rfl := asInt_some e3
  simp only at ev
  split at ev
  rotate_left
  · cases ev
  rename_i xs hd
  obtain ⟨kk, e4, ev⟩ := bind_some ev
  obtain ⟨δ1, e5, ev⟩ := bind_some ev
  cases ev
  unfold setAt at e5
  rw [hd] at e5
  simp only at e5
  split at e5
  rotate_left
  · cases e5
  cases e5
  refine S.eval e1 fun O1 v H1 s p V1 => ?_
  obtain ⟨a, vs, h1, h2, h3⟩ := V1.st.ownAt hd
  refine ⟨_, h1, low1 (S.rs.next s p) e2 fun w H2 s2 p2 R2 r2 => ?_⟩
  cases r2
  have S2 := V1.st.next s2 p2
  obtain ⟨a', vs', h4, h5, h6⟩ := S2.ownAt hd
  rw [h1] at h4; cases h4
  have rv := Rp.next V1.st.rs s2 V1.rp
  obtain ⟨S3, E3, _⟩ := S2.write hd h1 (h6.set rv kk)
  exact ⟨a, vs', m, kk, rfl, rfl, h5, by rw [h6.length]; exact e4, q O1 σ _ S3 ((V1.ev.trans (V1.st.evn s2)).trans E3)⟩
end
end Z
namespace Z
open PySem L2 PySem.Spec PyProof.Rows
section
variable {X : Cx} {Γ : Tab} {k : Nat} {N : List Str} {sc scope : Scope} {x a b c e e2 : E} {f g tg : Expr} {t t' : TE} {pos p0 : Pos}
variable {O W Oc Ob : Addr → Prop} {P : Option Addr} {σ σ' : L2.St} {H H' H0 Hb : Hp} {δ δ' : Dl} {π π' : Pot} {d : D} {v : V} {Dn : Ends} {fl : Fl} {K : PySem.W.Frag}
theorem sw_subs {o1 i1 o2 i2 f g : Expr} {p1 p2 p3 p4 : Pos} {k1 k2 : Nat} {env : Env} : swappedStores [.Tuple [.Subscript o1 i1 p1, .Subscript o2 i2 p2] k1 p3] (.Tuple [f, g] k2 p4) env = pure none := by
  unfold swappedStores
  simp only [List.filterMap_cons, List.filterMap_nil, List.length_cons, List.length_nil]
  split
  · rfl
  · split <;> rfl
theorem sw_fold {ts vs : List Expr} {p3 p4 : Pos} {k1 k2 : Nat} {env : Env} (h : vs.all (foldedForSure 8) = true) : swappedStores [.Tuple ts k1 p3] (.Tuple vs k2 p4) env = pure none := by
  unfold swappedStores
  simp only [h, if_true]
  repeat' split
  all_goals rfl
theorem s_set2 (G : Good Γ k N sc X) {i : Nat} {g2 h h2 f2 : Expr} {p2 p3 p4 p5 : Pos} {k1 k2 : Nat} (hx : isNm N sc i g = true) (hx2 : isNm N sc i g2 = true) (hcb : chkE N b sc h = true) (hcc : chkE N c sc h2 = true) (hca : chkE N e sc f = true) (hca2 : chkE N e2 sc f2 = true)
    (he : PE X f (tE Γ X.K e)) (he2 : PE X f2 (tE Γ X.K e2)) (hb : PE X h (tE Γ X.K b)) (hc : PE X h2 (tE Γ X.K c)) :
    PS X (.Assign [.Tuple [.Subscript g h p2, .Subscript g2 h2 p3] k1 p4] (.Tuple [f, f2] k2 p5) pos) (tS Γ X.K (exS Γ (.set2 i b c e e2))) := by
  have hp := pe_nm G hx
  have hp2 := pe_nm G hx2
  have hes : PA X [f, f2] (tEs Γ X.K (.cons e (.cons e2 .nil))) := a_cons hca he (a_cons hca2 he2 a_nil)
  have hcs : chkEs N (.cons e (.cons e2 .nil)) sc [f, f2] = true := by simp [chkEs, hca, hca2]
  have ht : PE X (.Tuple [f, f2] k2 p5) (tE Γ X.K (.tup (.cons e (.cons e2 .nil)))) := n_tup hes fun δ π d π' ev => by rw [chkEs_len hcs ev, sizeLine_eq]; simp only [List.length_cons, List.length_nil]; omega
  refine psImp (ps_asg ht (pg_tup G.calm (pgs_cons (pg_sub hp hb set_list (sub_assign hcb g X.env)) (pgs_cons (pg_sub hp2 hc set_list (sub_assign hcc g2 X.env)) pgs_nil))) rfl sw_subs) fun D σ H ⟨H0, Oc, P, O, δ, π, n, fl, S, ev, q⟩ => ?_
  simp only [exS] at ev
  obtain ⟨⟨d, π1⟩, e1, ev⟩ := bind_some ev
  obtain ⟨⟨dg, π2⟩, e2', ev⟩ := bind_some ev
  obtain ⟨⟨dm, π3⟩, e3, ev⟩ := bind_some ev
  obtain ⟨m, e4, ev⟩ := bind_some ev
  obtain rfl := asInt_some e4
  simp only at ev
  split at ev
  rotate_left
  · cases ev
  rename_i xs hd
  obtain ⟨k1', e5, ev⟩ := bind_some ev
  obtain ⟨δ1, e6, ev⟩ := bind_some ev
  obtain ⟨⟨dm2, π4⟩, e7, ev⟩ := bind_some ev
  obtain ⟨m2, e8, ev⟩ := bind_some ev
  obtain rfl := asInt_some e8
  obtain ⟨k2', e9, ev⟩ := bind_some ev
  obtain ⟨δ2, e10, ev⟩ := bind_some ev
  cases ev
  unfold setAt at e6
  rw [hd] at e6
  simp only at e6
  split at e6
  rotate_left
  · cases e6
  cases e6
  have hxl : i < (demote δ (keeps Γ e ++ keeps Γ e2)).length := (List.getElem?_eq_some_iff.mp hd).1
  have hd2 : ((demote δ (keeps Γ e ++ keeps Γ e2)).set i (Sl.own (.list (xs.set k1' d))))[i]? = some (.own (.list (xs.set k1' d))) := by rw [List.getElem?_set]; simp [hxl]
  unfold setAt at e10
  rw [hd2] at e10
  simp only at e10
  split at e10
  rotate_left
  · cases e10
  cases e10
  have et : evE Γ (.tup (.cons e (.cons e2 .nil))) δ π = some (.tuple [d, dg], π2) := by
    simp only [evE, evEs]
    rw [e1]
    simp only [Option.bind_eq_bind, Option.bind_some, e2']
    rfl
  have hk : keeps Γ (.tup (.cons e (.cons e2 .nil))) = keeps Γ e ++ keeps Γ e2 := by simp [keeps, keepsS]
  have ev2 := S.eval (C := fun v H1 => gTup X.K 2 (gCons (gSub (tVar i) (tE Γ X.K b) rSetL) (gCons (gSub (tVar i) (tE Γ X.K c) rSetL) gNil)) v σ H1 D.nx) et ?_
  · exact ev2
  rw [hk]
  intro O1 v H1 s p V1
  have hrp := V1.rp
  cases hrp with
  | @tup T vs _ r1 r2 =>
    cases r2 with
    | @cons v1 _ _ _ r3 r4 =>
      cases r4 with
      | @cons v2 _ _ _ r5 r6 =>
        cases r6
        obtain ⟨a, vs, h1, h2, h3⟩ := V1.st.ownAt hd
        refine ⟨T, _, rfl, r1, rfl, v1, [v2], rfl, _, h1, low1 (S.rs.next s p) e3 fun w H2 s2 p2 R2 r2 => ?_⟩
        cases r2
        have S2 := V1.st.next s2 p2
        obtain ⟨a', vs', h4, h5, h6⟩ := S2.ownAt hd
        rw [h1] at h4; cases h4
        have rv1 := Rp.next V1.st.rs s2 r3
        have rv2 := Rp.next V1.st.rs s2 r5
        obtain ⟨S3, E3, fr3⟩ := S2.write hd h1 (h6.set rv1 k1')
        have rv2' := Rp.frame fr3 _ _ rv2
        refine ⟨a, vs', m, k1', rfl, rfl, h5, by rw [h6.length]; exact e5, v2, [], rfl, _, h1, low1 S3.rs e7 fun w H4 s4 p4 R4 r4 => ?_⟩
        cases r4
        have S4 := S3.next s4 p4
        obtain ⟨a'', vs'', h7, h8, h9⟩ := S4.ownAt hd2
        rw [h1] at h7; cases h7
        have rv3 := Rp.next S3.rs s4 rv2'
        obtain ⟨S5, E5, _⟩ := S4.write hd2 h1 (h9.set rv3 k2')
        have hlen : (xs.set k1' d).length = xs.length := by simp
        exact ⟨a, vs'', m2, k2', rfl, rfl, h8, by rw [h9.length, hlen]; exact e9, rfl, q O1 σ _ S5 ((((V1.ev.trans (V1.st.evn s2)).trans E3).trans (S3.evn s4)).trans E5)⟩
/-! the pot -/
theorem Stt.potAt {p : Nat} (S : Stt K H0 Oc P O σ H δ π) (h : δ[p]? = some .pot) : ∃ a i j, P = some a ∧ σ[p]? = some (some (.ref a)) ∧ π = some (i, j) ∧ H a = some (.lst [.int i, .int j]) := by
  obtain ⟨a, hP, h1⟩ := S.rs.pot p h
  obtain ⟨_, i, j, h2, h3⟩ := S.rs.at_ a hP
  exact ⟨a, i, j, hP, h1, h2, h3⟩
theorem Stt.potW {a : Addr} {i j : Int} (S : Stt K H0 Oc P O σ H δ π) (hP : P = some a) : Stt K H0 Oc P O σ (upd H a (.lst [.int i, .int j])) δ (some (i, j)) ∧ Ev O H O (upd H a (.lst [.int i, .int j])) := by
  have s : SameX P H (upd H a (.lst [.int i, .int j])) := fun b o n e => by rw [upd_ne (fun z : b = a => n (by rw [z]; exact hP))]; exact e
  refine ⟨S.next s fun c e => ?_, S.evn s⟩
  rw [hP] at e; cases e
  exact ⟨i, j, rfl, upd_same⟩
theorem s_potSet (G : Good Γ k N sc X) {i : Nat} {h : Expr} {p2 : Pos} (hx : isNm N sc i g = true) (hh : isC 1 h = true) (he : PE X f (tE Γ X.K e)) : PS X (.Assign [.Subscript g h p2] f pos) (tS Γ X.K (exS Γ (.potSet i e))) := by
  have hp := pe_nm G hx
  obtain ⟨kk, cp, rfl⟩ := isC_of hh
  refine psImp (ps_asg he (pg_sub hp pe_int set_list) (show swapsWith f (some (.Subscript g (.Constant (.int 1) kk cp) p2)) pos.line X.env = pure false from sw_sub) rfl) fun D σ H ⟨H0, Oc, P, O, δ, π, n, fl, S, ev, q⟩ => ?_
  simp only [exS] at ev
  split at ev
  rotate_left
  · cases ev
  rename_i hd
  obtain ⟨⟨d, π1⟩, e1, ev⟩ := bind_some ev
  obtain ⟨m, e2, ev⟩ := bind_some ev
  obtain rfl := asInt_some e2
  simp only at ev
  split at ev
  rotate_left
  · cases ev
  rename_i xy
  cases ev
  refine low1 S.rs e1 fun v H1 s p R1 r1 => ?_
  cases r1
  have S1 := S.next s p
  obtain ⟨a, i', j', hP, h1, h2, h3⟩ := S1.potAt hd
  cases h2
  obtain ⟨S2, E2⟩ := S1.potW (i := i') (j := m) hP
  exact ⟨_, h1, a, _, 1, 1, rfl, rfl, h3, rfl, q O σ _ S2 ((S.evn s).trans E2)⟩
theorem s_potDiv (G : Good Γ k N sc X) {i j : Nat} {y : Str} {g2 h h2 fd : Expr} {p1 p2 p3 p4 cp : Pos} {k1 : Nat} (hx : isNm N sc i g = true) (hx2 : isNm N sc i g2 = true) (hh : isC 0 h = true) (hh2 : isC 0 h2 = true) (hj : N[j]? = some y) (hy : locB sc y = true)
    (hb : isB sc "divmod" fd = true) (hc : chkE N e sc f = true) (he : PE X f (tE Γ X.K e)) :
    PS X (.Assign [.Tuple [.Subscript g h p1, .Name y p2] k1 p3] (.Call fd [.Subscript g2 h2 p4, f] [] cp) pos) (tS Γ X.K (exS Γ (.potDiv i j e))) := by
  have hp := pe_nm G hx
  have hget := n_pot0 (Γ := Γ) (pos := p4) G hx2 hh2
  obtain ⟨kk, ip, rfl⟩ := isC_of hh
  obtain ⟨dp, rfl, hg⟩ := isB_of hb
  have hst := star1 hc [] X.env
  obtain ⟨l1, l2⟩ := G.loc hy
  have hcall := pe_callB (pos := cp) (p := dp) call_divmod (G.gl hg) (G.tab.blt _ (by decide)) (show bootBuiltins "divmod" = some (.builtin "divmod") by decide +kernel) (pa_cons hget (pa_cons he pa_nil hst) rfl) (by decide) (by decide) rfl (by rw [hst]; rfl)
  refine psImp (ps_asg hcall (pg_tup G.calm (pgs_cons (pg_sub hp pe_int set_list) (pgs_cons (pg_name (by rw [G.N_]; exact G.nd) (by rw [G.N_]; exact hj) l1 l2) pgs_nil))) rfl rfl) fun D σ H ⟨H0, Oc, P, O, δ, π, n, fl, S, ev, q⟩ => ?_
  simp only [exS] at ev
  split at ev
  rotate_left
  · cases ev
  rename_i xy hd
  obtain ⟨⟨d, π1⟩, e1, ev⟩ := bind_some ev
  obtain ⟨m, e2, ev⟩ := bind_some ev
  obtain rfl := asInt_some e2
  simp only at ev
  split at ev
  rotate_left
  · cases ev
  split at ev
  rotate_left
  · cases ev
  rename_i hm
  cases ev
  obtain ⟨m0, m1, hjl, hne, hpi⟩ := hm
  have e0 : evE Γ (.pot0 i) δ (some xy) = some (.int xy.1, some xy) := by simp only [evE]; rw [hd]
  refine low2 S.rs e0 (hpi ▸ e1) fun v w H1 s p R1 r1 r2 => ?_
  cases r1; cases r2
  refine ⟨xy.1, m, rfl, ⟨m0, m1⟩, fun T hT => ?_⟩
  have s2 := SameX.of (P := P) (same_upd (o := .tup [V.int (xy.1 / m), V.int (xy.1 % m)]) hT)
  have S1 := S.next s p
  have S2 := S1.next s2 (p.same (same_upd hT))
  obtain ⟨a, i', j', hP, h1, h2, h3⟩ := S2.potAt hd
  cases h2
  obtain ⟨S3, E3⟩ := S2.potW (i := i' / m) (j := j') hP
  refine ⟨T, _, rfl, .inl (.inl upd_same), rfl, .int (i' / m), [.int (i' % m)], rfl, _, h1, a, _, 0, 0, rfl, rfl, h3, rfl, .int (i' % m), [], rfl, rfl, ?_⟩
  refine q O _ _ (S3.updS (Upd.one S3.rs.len hjl (.int _))) (((S.evn s).trans (S1.evn s2)).trans E3)
end
end Z
/-! every statement -/
namespace Z
open PySem L2 PySem.Spec PyProof.Rows
def opt {α : Type} (o : Option α) (f : α → Bool) : Bool := match o with
  | some a => f a
  | none => false
theorem opt_true {α : Type} {o : Option α} {f : α → Bool} (h : opt o f = true) : ∃ a, o = some a ∧ f a = true := by
  cases o with
  | none => cases h
  | some a => exact ⟨a, rfl, h⟩
def mAsg : Stmt → Option (List Expr × Expr × Pos)
  | .Assign ts v p => some (ts, v, p)
  | _ => none
def m1 {α : Type} : List α → Option α
  | [a] => some a
  | _ => none
def m2 {α : Type} : List α → Option (α × α)
  | [a, b] => some (a, b)
  | _ => none
def m0 {α : Type} : List α → Bool
  | [] => true
  | _ => false
def mName : Expr → Option (Str × Pos)
  | .Name y p => some (y, p)
  | _ => none
def mTup : Expr → Option (List Expr × Nat × Pos)
  | .Tuple es k p => some (es, k, p)
  | _ => none
def mSub : Expr → Option (Expr × Expr × Pos)
  | .Subscript a b p => some (a, b, p)
  | _ => none
def mCall : Expr → Option (Expr × List Expr × List Keyword × Pos)
  | .Call f xs ks p => some (f, xs, ks, p)
  | _ => none
def mAttr : Expr → Option (Expr × Str × Pos)
  | .Attribute o m p => some (o, m, p)
  | _ => none
def mExpr : Stmt → Option (Expr × Pos)
  | .Expr e p => some (e, p)
  | _ => none
def mIf : Stmt → Option (Expr × List Stmt × List Stmt × Pos)
  | .If c a b p => some (c, a, b, p)
  | _ => none
def mFor : Stmt → Option (Expr × Expr × List Stmt × List Stmt × Pos)
  | .For t i b o p => some (t, i, b, o, p)
  | _ => none
def mWhl : Stmt → Option (Expr × List Stmt × List Stmt × Pos)
  | .While c b o p => some (c, b, o, p)
  | _ => none
def mRet : Stmt → Option (Expr × Pos)
  | .Return (some e) p => some (e, p)
  | _ => none
theorem mAsg_of {st : Stmt} {x} (h : mAsg st = some x) : st = .Assign x.1 x.2.1 x.2.2 := by cases st <;> simp [mAsg] at h; subst h; rfl
theorem m1_of {α : Type} {l : List α} {x} (h : m1 l = some x) : l = [x] := by
  rcases l with _ | ⟨a, _ | ⟨b, r⟩⟩ <;> simp [m1] at h
  subst h; rfl
theorem m2_of {α : Type} {l : List α} {x} (h : m2 l = some x) : l = [x.1, x.2] := by
  rcases l with _ | ⟨a, _ | ⟨b, _ | ⟨c, r⟩⟩⟩ <;> simp [m2] at h
  subst h; rfl
theorem m0_of {α : Type} {l : List α} (h : m0 l = true) : l = [] := by cases l <;> simp [m0] at h; rfl
theorem mName_of {e : Expr} {x} (h : mName e = some x) : e = .Name x.1 x.2 := by cases e <;> simp [mName] at h; subst h; rfl
theorem mTup_of {e : Expr} {x} (h : mTup e = some x) : e = .Tuple x.1 x.2.1 x.2.2 := by cases e <;> simp [mTup] at h; subst h; rfl
theorem mSub_of {e : Expr} {x} (h : mSub e = some x) : e = .Subscript x.1 x.2.1 x.2.2 := by cases e <;> simp [mSub] at h; subst h; rfl
theorem mCall_of {e : Expr} {x} (h : mCall e = some x) : e = .Call x.1 x.2.1 x.2.2.1 x.2.2.2 := by cases e <;> simp [mCall] at h; subst h; rfl
theorem mAttr_of {e : Expr} {x} (h : mAttr e = some x) : e = .Attribute x.1 x.2.1 x.2.2 := by cases e <;> simp [mAttr] at h; subst h; rfl
theorem mExpr_of {st : Stmt} {x} (h : mExpr st = some x) : st = .Expr x.1 x.2 := by cases st <;> simp [mExpr] at h; subst h; rfl
theorem mIf_of {st : Stmt} {x} (h : mIf st = some x) : st = .If x.1 x.2.1 x.2.2.1 x.2.2.2 := by cases st <;> simp [mIf] at h; subst h; rfl
theorem mFor_of {st : Stmt} {x} (h : mFor st = some x) : st = .For x.1 x.2.1 x.2.2.1 x.2.2.2.1 x.2.2.2.2 := by cases st <;> simp [mFor] at h; subst h; rfl
theorem mWhl_of {st : Stmt} {x} (h : mWhl st = some x) : st = .While x.1 x.2.1 x.2.2.1 x.2.2.2 := by cases st <;> simp [mWhl] at h; subst h; rfl
theorem mRet_of {st : Stmt} {x} (h : mRet st = some x) : st = .Return (some x.1) x.2 := by
  cases st <;> simp [mRet] at h
  rename_i v p
  cases v <;> simp at h
  subst h; rfl
def asgOk (sc : Scope) (y : Str) (p : Pos) : Expr → Bool
  | .ListComp _ _ scope p2 => if p.line == p2.line then (sc.names.lookup y == some .local && !(scope.names.any fun (n, k) => n == y && (k == .local || k == .cell))) || sc.names.lookup y == some .cell else true
  | _ => true
def tupOk (sc : Scope) (ts : List Expr) : Expr → Bool
  | .Tuple vs _ _ => vs.all (foldedForSure 8) || ts.any fun t => opt (mName t) fun y => sc.names.lookup y.1 == some .cell
  | _ => true
theorem filterMap_lt {α β : Type} {f : α → Option β} : ∀ {l : List α}, (∃ t ∈ l, f t = none) → (l.filterMap f).length < l.length
  | [], ⟨t, h, _⟩ => by cases h
  | a :: l, ⟨t, h, e⟩ => by
    have hle : (l.filterMap f).length ≤ l.length := List.length_filterMap_le f l
    rcases List.mem_cons.mp h with rfl | h
    · rw [List.filterMap_cons_none e, List.length_cons]; omega
    · have ih := filterMap_lt (f := f) ⟨t, h, e⟩
      cases q : f a with
      | none => rw [List.filterMap_cons_none q, List.length_cons]; omega
      | some b => rw [List.filterMap_cons_some q, List.length_cons, List.length_cons]; omega
theorem sw_cellT {ts vs : List Expr} {p3 p4 : Pos} {k1 k2 : Nat} {env : Env} (h : ∃ y p, Expr.Name y p ∈ ts ∧ env.scope.names.lookup y = some .cell) : swappedStores [.Tuple ts k1 p3] (.Tuple vs k2 p4) env = pure none := by
  obtain ⟨y, p, hm, hy⟩ := h
  have ky : env.kindOf y = some .cell := hy
  unfold swappedStores
  simp only
  split
  · rfl
  · split
    · rfl
    · rw [if_pos]
      simp only [Bool.or_eq_true, bne_iff_ne, ne_eq]
      refine .inl (Nat.ne_of_lt (filterMap_lt ⟨_, hm, ?_⟩))
      simp only [ky]
      rw [if_neg]
      simp [show ¬ (some NameKind.cell = some NameKind.local) from fun z => by cases z]
/-- o.m(..) -/
def mMeth (m : Str) (e : Expr) : Option (Expr × Pos × List Expr × Pos) := match mCall e with
  | some (f, xs, [], cp) => match mAttr f with
    | some (g, m', ap) => if m == m' && ap.endLine == cp.line then some (g, ap, xs, cp) else none
    | none => none
  | _ => none
theorem mMeth_of {m : Str} {e : Expr} {x} (h : mMeth m e = some x) : e = .Call (.Attribute x.1 m x.2.1) x.2.2.1 [] x.2.2.2 ∧ (x.2.1.endLine == x.2.2.2.line) = true := by
  unfold mMeth at h
  split at h
  · rename_i f xs cp h1
    split at h
    · rename_i g m' ap h2
      split at h
      · rename_i h3
        simp only [Bool.and_eq_true] at h3
        cases h
        have e1 := mCall_of h1
        have e2 := mAttr_of h2
        simp only at e1 e2
        rw [e1, e2, beq_iff_eq.mp h3.1]
        exact ⟨rfl, h3.2⟩
      · cases h
    · cases h
  · cases h
section
variable (N : List Str)
mutual
def chkS : S → Scope → Stmt → Bool
  | .asg i e, sc, st => opt (mAsg st) fun x => opt (m1 x.1) fun tg => opt (mName tg) fun y => N[i]? == some y.1 && locB sc y.1 && chkE N e sc x.2.1 && asgOk sc y.1 y.2 x.2.1
  | .asgT p e, sc, st => opt (mAsg st) fun x => opt (m1 x.1) fun tg => opt (mTup tg) fun y => chkPt N p sc (.Tuple y.1 y.2.1 y.2.2) && chkE N e sc x.2.1 && tupOk sc y.1 x.2.1
  | .par is es, sc, st => opt (mAsg st) fun x => opt (m1 x.1) fun tg => opt (mTup tg) fun y => opt (mTup x.2.1) fun z => opt (m2 y.1) fun ns => opt (m2 z.1) fun vs => opt (mName ns.1) fun n1 => opt (mName ns.2) fun n2 => opt (m2 is) fun ij =>
    N[ij.1]? == some n1.1 && N[ij.2]? == some n2.1 && ij.1 != ij.2 && sc.names.lookup n1.1 == some .local && sc.names.lookup n2.1 == some .local && chkEs N es sc [vs.1, vs.2] && n2.2.line == n1.2.line && !([vs.1, vs.2].all (foldedForSure 8)) && !([vs.1, vs.2].all (constantsAlone 8))
  | .setI x i e, sc, st => opt (mAsg st) fun a => opt (m1 a.1) fun tg => opt (mSub tg) fun g => isNm N sc x g.1 && chkE N i sc g.2.1 && chkE N e sc a.2.1
  | .set2 x i j e e2, sc, st => opt (mAsg st) fun a => opt (m1 a.1) fun tg => opt (mTup tg) fun y => opt (mTup a.2.1) fun z => opt (m2 y.1) fun ns => opt (m2 z.1) fun vs => opt (mSub ns.1) fun g => opt (mSub ns.2) fun g2 =>
    isNm N sc x g.1 && isNm N sc x g2.1 && chkE N i sc g.2.1 && chkE N j sc g2.2.1 && chkE N e sc vs.1 && chkE N e2 sc vs.2
  | .potDiv p y e, sc, st => opt (mAsg st) fun a => opt (m1 a.1) fun tg => opt (mTup tg) fun t => opt (mCall a.2.1) fun c => opt (m2 t.1) fun ns => opt (m2 c.2.1) fun vs => opt (mSub ns.1) fun g => opt (mName ns.2) fun z => opt (mSub vs.1) fun g2 =>
    m0 c.2.2.1 && isNm N sc p g.1 && isNm N sc p g2.1 && isC 0 g.2.1 && isC 0 g2.2.1 && N[y]? == some z.1 && locB sc z.1 && isB sc "divmod" c.1 && chkE N e sc vs.2
  | .potSet p e, sc, st => opt (mAsg st) fun a => opt (m1 a.1) fun tg => opt (mSub tg) fun g => isNm N sc p g.1 && isC 1 g.2.1 && chkE N e sc a.2.1
  | .app x e, sc, st => opt (mExpr st) fun a => opt (mMeth "append" a.1) fun c => opt (m1 c.2.2.1) fun f => isNm N sc x c.1 && chkE N e sc f
  | .ext x e, sc, st => opt (mExpr st) fun a => opt (mMeth "extend" a.1) fun c => opt (m1 c.2.2.1) fun f => isNm N sc x c.1 && chkE N e sc f
  | .pop t x, sc, st => opt (mAsg st) fun a => opt (m1 a.1) fun tg => opt (mMeth "pop" a.2.1) fun c => m0 c.2.2.1 && isNm N sc x c.1 && chkPt N t sc tg
  | .popAt i x e, sc, st => opt (mAsg st) fun a => opt (m1 a.1) fun tg => opt (mMeth "pop" a.2.1) fun c => opt (m1 c.2.2.1) fun f => isNm N sc x c.1 && chkPt N (.v i) sc tg && chkE N e sc f
  | .appPop y x e, sc, st => opt (mExpr st) fun a => opt (mMeth "append" a.1) fun c => opt (m1 c.2.2.1) fun b => opt (mMeth "pop" b) fun d => opt (m1 d.2.2.1) fun f => isNm N sc y c.1 && isNm N sc x d.1 && chkE N e sc f
  | .ifS c a b, sc, st => opt (mIf st) fun t => chkE N c sc t.1 && chkSs a sc t.2.1 && chkSs b sc t.2.2.1
  | .forS p it b, sc, st => opt (mFor st) fun t => chkPt N p sc t.1 && chkI N it sc t.2.1 && isTg it t.1 && chkSs b sc t.2.2.1 && m0 t.2.2.2.1
  | .whl c b, sc, st => opt (mWhl st) fun t => chkE N c sc t.1 && chkSs b sc t.2.1 && m0 t.2.2.1
  | .ret e, sc, st => opt (mRet st) fun t => chkE N e sc t.1
  | .exp e, sc, st => opt (mExpr st) fun t => opt (mCall t.1) fun c => chkE N e sc (.Call c.1 c.2.1 c.2.2.1 c.2.2.2)
  | .raise, _, _ => true
def chkSs : Ss → Scope → List Stmt → Bool
  | .nil, _, [] => true
  | .cons s ss, sc, st :: sts => chkS s sc st && chkSs ss sc sts
  | _, _, _ => false
end
end
section
variable {Γ : Tab} {k : Nat} {N : List Str}
theorem sw_cell {f : Expr} {scope : Scope} {p0 : Pos} {y : Str} {l : Nat} {env : Env} {p2 : Pos} {gs : List Comprehension} (hy : env.scope.names.lookup y = some .cell) : swapsWith (.ListComp f gs scope p2) (some (.Name y p0)) l env = pure false := by
  have ky : env.kindOf y = some .cell := hy
  unfold swapsWith
  have hcl : (some NameKind.cell == some NameKind.local) = false := rfl
  simp only [Expr.pos, ky, hcl, Bool.and_false, Bool.false_and]
theorem assign_star2 {p : Pt} {X : Cx} {sc : Scope} {tg : Expr} (h : chkPt N p sc tg = true) : (assignEach [tg] X.env).map (·.2) = [assign tg X.env] := by
  rw [assign_star1 h]; rfl
theorem snd_asg {i : Nat} {e : E} {X : Cx} {sc : Scope} {y : Str} {p pos : Pos} {v : Expr} (G : Good Γ k N sc X) (hk : X.env.scope.kind = .function) (h1 : N[i]? = some y) (h2 : locB sc y = true) (h3 : chkE N e sc v = true) (h4 : asgOk sc y p v = true) : PS X (.Assign [.Name y p] v pos) (tS Γ X.K (exS Γ (.asg i e))) := by
  have he := (sndE e X sc v G h3).1
  have no3 : ∀ {v' : Expr}, chkE N e sc v' = true → (∀ a b c d, v' ≠ .SetComp a b c d) ∧ ∀ a b c d f, v' ≠ .DictComp a b c d f := fun {v'} hh => by
    refine ⟨fun a b c d z => ?_, fun a b c d f z => ?_⟩
    · subst z
      cases e with
      | isi kd a => cases kd <;> exact Bool.false_ne_true hh
      | _ => exact Bool.false_ne_true hh
    · subst z
      cases e with
      | isi kd a => cases kd <;> exact Bool.false_ne_true hh
      | _ => exact Bool.false_ne_true hh
  have plain : (∀ a b c d, v ≠ .ListComp a b c d) → PS X (.Assign [.Name y p] v pos) (tS Γ X.K (exS Γ (.asg i e))) := fun hn => s_set G h1 h2 he (by
    cases v with
    | ListComp a b c d => exact absurd rfl (hn a b c d)
    | SetComp a b c d => exact absurd rfl ((no3 h3).1 a b c d)
    | DictComp a b c d f => exact absurd rfl ((no3 h3).2 a b c d f)
    | _ => rfl)
  by_cases hv : ∃ a b c d, v = .ListComp a b c d
  · obtain ⟨elt, gens, scope, p2, rfl⟩ := hv
    simp only [asgOk] at h4
    by_cases hl : (p.line == p2.line) = true
    · rw [if_pos hl] at h4
      simp only [Bool.or_eq_true, Bool.and_eq_true, beq_iff_eq, Bool.not_eq_true'] at h4
      rcases h4 with ⟨h5, h6⟩ | h5
      · cases e with
        | comp elt' pt it own cond =>
          rcases gens with _ | ⟨⟨tg, ix, ifs, asy⟩, _ | ⟨g2, r⟩⟩ <;> try (exact (Bool.false_ne_true h3).elim)
          rotate_left
          · rcases asy with n | n <;> (try (exact (Bool.false_ne_true h3).elim)) <;> rcases n with _ | n <;> exact (Bool.false_ne_true h3).elim
          rcases asy with n | n <;> try (exact (Bool.false_ne_true h3).elim)
          rcases n with _ | n <;> try (exact (Bool.false_ne_true h3).elim)
          have h' : (blkC N sc scope own && (ptSlots pt).all (fun i => (own.map (·.2)).contains i) && (own.map (·.2)).all (fun i => decide (i < N.length)) && chkPt N pt scope tg && chkI N it sc ix && isTg it tg && chkC N cond scope ifs && chkE N elt' scope elt && decide ((own.map (·.2)).Nodup)) = true := h3
          simp only [Bool.and_eq_true] at h'
          obtain ⟨⟨⟨⟨⟨⟨⟨⟨g1, g2⟩, g3⟩, g4⟩, g5⟩, g6⟩, g7⟩, g8⟩, g9⟩ := h'
          exact s_setLc G h1 h5
            { ok := G.blkOk g1
              hi := sndI it X sc tg ix G g5 g6
              hg := fun s H C cl fp => snd_pt (G.blk s H C cl fp) pt tg g4
              ht := fun s H C cl fp => sndC cond _ scope ifs (G.blk s H C cl fp) g7
              he := fun s H C cl fp => (sndE elt' _ scope elt (G.blk s H C cl fp) g8).1
              fo := fold_it g5 _
              sl := fun i hi => by
                have := List.all_eq_true.mp g2 i hi
                simpa using this } hl h6 hk
        | isi kd a => cases kd <;> exact (Bool.false_ne_true h3).elim
        | _ => exact (Bool.false_ne_true h3).elim
      · obtain ⟨q', e1, e2⟩ := G.kinds y _ h5
        have e1' : X.env.scope.names.lookup y = some .cell := by rcases e2 with rfl | ⟨z, _⟩; exact e1; cases z
        exact s_set G h1 h2 he (sw_cell e1')
    · exact s_set G h1 h2 he (sw_false (by simpa using hl))
  · exact plain fun a b c d z => hv ⟨a, b, c, d, z⟩
mutual
theorem sndS : ∀ (s : S) (X : Cx) (sc : Scope) (st : Stmt), Good Γ k N sc X → X.env.scope.kind = .function → PassesOwn (model X.prog X.w) X.A X.env X.xe → chkS N s sc st = true → PS X st (tS Γ X.K (exS Γ s))
  | .asg i e, X, sc, st, G, hk, hp, h => by
    obtain ⟨x, e1, h⟩ := opt_true h
    obtain ⟨tg, e2, h⟩ := opt_true h
    obtain ⟨y, e3, h⟩ := opt_true h
    rw [mAsg_of e1, m1_of e2, mName_of e3]
    simp only [Bool.and_eq_true, beq_iff_eq] at h
    exact snd_asg G hk h.1.1.1 h.1.1.2 h.1.2 h.2
  | .asgT p e, X, sc, st, G, hk, hp, h => by
    obtain ⟨x, e1, h⟩ := opt_true h
    obtain ⟨tg, e2, h⟩ := opt_true h
    obtain ⟨y, e3, h⟩ := opt_true h
    rw [mAsg_of e1, m1_of e2, mTup_of e3]
    simp only [Bool.and_eq_true] at h
    refine s_asgT G h.1.1 (sndE e X sc _ G h.1.2).1 ?_
    have h3 := h.2
    generalize x.2.1 = v at *
    cases v with
    | Tuple vs k3 p3 =>
      simp only [tupOk, Bool.or_eq_true] at h3
      rcases h3 with h3 | h3
      · exact sw_fold h3
      · obtain ⟨t, m1', m2'⟩ := List.any_eq_true.mp h3
        obtain ⟨z, m3, m4⟩ := opt_true m2'
        rw [mName_of m3] at m1'
        obtain ⟨q', e1', e2'⟩ := G.kinds _ _ (beq_iff_eq.mp m4)
        refine sw_cellT ⟨_, _, m1', ?_⟩
        rcases e2' with rfl | ⟨zz, _⟩
        · exact e1'
        · cases zz
    | _ => rfl
  | .par is es, X, sc, st, G, hk, hp, h => by
    obtain ⟨x, e1, h⟩ := opt_true h
    obtain ⟨tg, e2, h⟩ := opt_true h
    obtain ⟨y, e3, h⟩ := opt_true h
    obtain ⟨z, e4, h⟩ := opt_true h
    obtain ⟨ns, e5, h⟩ := opt_true h
    obtain ⟨vs, e6, h⟩ := opt_true h
    obtain ⟨n1, e7, h⟩ := opt_true h
    obtain ⟨n2, e8, h⟩ := opt_true h
    obtain ⟨ij, e9, h⟩ := opt_true h
    rw [mAsg_of e1, m1_of e2, mTup_of e3, mTup_of e4, m2_of e5, m2_of e6, mName_of e7, mName_of e8, m2_of e9]
    simp only [Bool.and_eq_true, beq_iff_eq, bne_iff_ne, ne_eq, Bool.not_eq_true'] at h
    obtain ⟨⟨⟨⟨⟨⟨⟨⟨h1, h2⟩, h3⟩, h4⟩, h5⟩, h6⟩, h7⟩, h8⟩, h9⟩ := h
    cases es with
    | nil => exact (Bool.false_ne_true h6).elim
    | cons a r =>
      cases r with
      | nil =>
        have h' : (chkE N a sc vs.1 && false) = true := h6
        simp at h'
      | cons b r =>
        cases r with
        | cons c r =>
          have h' : (chkE N a sc vs.1 && (chkE N b sc vs.2 && false)) = true := h6
          simp at h'
        | nil =>
          have h' : (chkE N a sc vs.1 && (chkE N b sc vs.2 && true)) = true := h6
          simp only [Bool.and_eq_true, Bool.and_true] at h'
          exact s_par2 G h1 h2 h3 h4 h5 h'.1 h'.2 (sndE a X sc _ G h'.1).1 (sndE b X sc _ G h'.2).1 hk (by rw [h7]; exact beq_self_eq_true _) h8 h9
  | .setI x i e, X, sc, st, G, hk, hp, h => by
    obtain ⟨a, e1, h⟩ := opt_true h
    obtain ⟨tg, e2, h⟩ := opt_true h
    obtain ⟨g, e3, h⟩ := opt_true h
    rw [mAsg_of e1, m1_of e2, mSub_of e3]
    simp only [Bool.and_eq_true] at h
    exact s_setI G h.1.1 h.1.2 (sndE e X sc _ G h.2).1 (sndE i X sc _ G h.1.2).1
  | .set2 x i j e e2, X, sc, st, G, hk, hp, h => by
    obtain ⟨a, e1, h⟩ := opt_true h
    obtain ⟨tg, e2', h⟩ := opt_true h
    obtain ⟨y, e3, h⟩ := opt_true h
    obtain ⟨z, e4, h⟩ := opt_true h
    obtain ⟨ns, e5, h⟩ := opt_true h
    obtain ⟨vs, e6, h⟩ := opt_true h
    obtain ⟨g, e7, h⟩ := opt_true h
    obtain ⟨g2, e8, h⟩ := opt_true h
    rw [mAsg_of e1, m1_of e2', mTup_of e3, mTup_of e4, m2_of e5, m2_of e6, mSub_of e7, mSub_of e8]
    simp only [Bool.and_eq_true] at h
    obtain ⟨⟨⟨⟨⟨h1, h2⟩, h3⟩, h4⟩, h5⟩, h6⟩ := h
    exact s_set2 G h1 h2 h3 h4 h5 h6 (sndE e X sc _ G h5).1 (sndE e2 X sc _ G h6).1 (sndE i X sc _ G h3).1 (sndE j X sc _ G h4).1
  | .potDiv p y e, X, sc, st, G, hk, hp, h => by
    obtain ⟨a, e1, h⟩ := opt_true h
    obtain ⟨tg, e2, h⟩ := opt_true h
    obtain ⟨t, e3, h⟩ := opt_true h
    obtain ⟨c, e4, h⟩ := opt_true h
    obtain ⟨ns, e5, h⟩ := opt_true h
    obtain ⟨vs, e6, h⟩ := opt_true h
    obtain ⟨g, e7, h⟩ := opt_true h
    obtain ⟨z, e8, h⟩ := opt_true h
    obtain ⟨g2, e9, h⟩ := opt_true h
    simp only [Bool.and_eq_true, beq_iff_eq] at h
    obtain ⟨⟨⟨⟨⟨⟨⟨⟨h0, h1⟩, h2⟩, h3⟩, h4⟩, h5⟩, h6⟩, h7⟩, h8⟩ := h
    rw [mAsg_of e1, m1_of e2, mTup_of e3, mCall_of e4, m2_of e5, m2_of e6, mSub_of e7, mName_of e8, mSub_of e9, m0_of h0]
    exact s_potDiv G h1 h2 h3 h4 h5 h6 h7 h8 (sndE e X sc _ G h8).1
  | .potSet p e, X, sc, st, G, hk, hp, h => by
    obtain ⟨a, e1, h⟩ := opt_true h
    obtain ⟨tg, e2, h⟩ := opt_true h
    obtain ⟨g, e3, h⟩ := opt_true h
    rw [mAsg_of e1, m1_of e2, mSub_of e3]
    simp only [Bool.and_eq_true] at h
    exact s_potSet G h.1.1 h.1.2 (sndE e X sc _ G h.2).1
  | .app x e, X, sc, st, G, hk, hp, h => by
    obtain ⟨a, e1, h⟩ := opt_true h
    obtain ⟨c, e2, h⟩ := opt_true h
    obtain ⟨f, e3, h⟩ := opt_true h
    obtain ⟨e4, e5⟩ := mMeth_of e2
    rw [mExpr_of e1, e4, m1_of e3]
    simp only [Bool.and_eq_true] at h
    exact s_app G h.1 h.2 (sndE e X sc f G h.2).1 e5
  | .ext x e, X, sc, st, G, hk, hp, h => by
    obtain ⟨a, e1, h⟩ := opt_true h
    obtain ⟨c, e2, h⟩ := opt_true h
    obtain ⟨f, e3, h⟩ := opt_true h
    obtain ⟨e4, e5⟩ := mMeth_of e2
    rw [mExpr_of e1, e4, m1_of e3]
    simp only [Bool.and_eq_true] at h
    exact s_ext G h.1 h.2 (sndE e X sc f G h.2).1 e5
  | .pop t x, X, sc, st, G, hk, hp, h => by
    obtain ⟨a, e1, h⟩ := opt_true h
    obtain ⟨tg, e2, h⟩ := opt_true h
    obtain ⟨c, e3, h⟩ := opt_true h
    obtain ⟨e4, e5⟩ := mMeth_of e3
    simp only [Bool.and_eq_true] at h
    rw [mAsg_of e1, m1_of e2, e4, m0_of h.1.1]
    exact s_pop G h.1.2 h.2 e5 (assign_star2 h.2)
  | .popAt i x e, X, sc, st, G, hk, hp, h => by
    obtain ⟨a, e1, h⟩ := opt_true h
    obtain ⟨tg, e2, h⟩ := opt_true h
    obtain ⟨c, e3, h⟩ := opt_true h
    obtain ⟨f, e6, h⟩ := opt_true h
    obtain ⟨e4, e5⟩ := mMeth_of e3
    simp only [Bool.and_eq_true] at h
    rw [mAsg_of e1, m1_of e2, e4, m1_of e6]
    exact s_popAt G h.1.1 h.1.2 h.2 (sndE e X sc f G h.2).1 e5 (assign_star2 h.1.2)
  | .appPop y x e, X, sc, st, G, hk, hp, h => by
    obtain ⟨a, e1, h⟩ := opt_true h
    obtain ⟨c, e2, h⟩ := opt_true h
    obtain ⟨b, e3, h⟩ := opt_true h
    obtain ⟨d, e4, h⟩ := opt_true h
    obtain ⟨f, e5, h⟩ := opt_true h
    obtain ⟨e6, e7⟩ := mMeth_of e2
    obtain ⟨e8, e9⟩ := mMeth_of e4
    simp only [Bool.and_eq_true] at h
    rw [mExpr_of e1, e6, m1_of e3, e8, m1_of e5]
    exact s_appPop G h.1.1 h.1.2 h.2 (sndE e X sc f G h.2).1 e9 e7
  | .ifS c a b, X, sc, st, G, hk, hp, h => by
    obtain ⟨t, e1, h⟩ := opt_true h
    rw [mIf_of e1]
    simp only [Bool.and_eq_true] at h
    exact s_if (sndE c X sc _ G h.1.1).2 (sndSs a X sc _ G hk hp h.1.2) (sndSs b X sc _ G hk hp h.2)
  | .forS p it b, X, sc, st, G, hk, hp, h => by
    obtain ⟨t, e1, h⟩ := opt_true h
    simp only [Bool.and_eq_true] at h
    rw [mFor_of e1, m0_of h.2]
    exact s_for G hp (sndI it X sc _ _ G h.1.1.1.2 h.1.1.2) (snd_pt G p _ h.1.1.1.1) (sndSs b X sc _ G hk hp h.1.2) (fold_it h.1.1.1.2 _)
  | .whl c b, X, sc, st, G, hk, hp, h => by
    obtain ⟨t, e1, h⟩ := opt_true h
    simp only [Bool.and_eq_true] at h
    rw [mWhl_of e1, m0_of h.2]
    exact s_whl hp (sndE c X sc _ G h.1.1).2 (sndSs b X sc _ G hk hp h.1.2)
  | .ret e, X, sc, st, G, hk, hp, h => by
    obtain ⟨t, e1, h⟩ := opt_true h
    rw [mRet_of e1]
    exact s_ret G h (sndE e X sc _ G h).1
  | .exp e, X, sc, st, G, hk, hp, h => by
    obtain ⟨t, e1, h⟩ := opt_true h
    obtain ⟨c, e2, h⟩ := opt_true h
    rw [mExpr_of e1, mCall_of e2]
    exact s_exp (sndE e X sc _ G h).1 rfl
  | .raise, X, sc, st, G, hk, hp, h => s_raise
theorem sndSs : ∀ (ss : Ss) (X : Cx) (sc : Scope) (sts : List Stmt), Good Γ k N sc X → X.env.scope.kind = .function → PassesOwn (model X.prog X.w) X.A X.env X.xe → chkSs N ss sc sts = true → PSs X sts (tS Γ X.K (exSs Γ ss))
  | .nil, X, sc, [], G, _, _, _ => s_nil
  | .nil, X, sc, _ :: _, G, _, _, h => by exact (Bool.false_ne_true h).elim
  | .cons _ _, X, sc, [], G, _, _, h => by exact (Bool.false_ne_true h).elim
  | .cons s ss, X, sc, st :: sts, G, hk, hp, h => by
    have h' : (chkS N s sc st && chkSs N ss sc sts) = true := h
    simp only [Bool.and_eq_true] at h'
    exact s_cons (sndS s X sc st G hk hp h'.1) (sndSs ss X sc sts G hk hp h'.2)
end
end
end Z
/-! defs -/
namespace Z
open PySem L2 PySem.Spec PyProof.Rows
def isDoc : Stmt → Bool
  | .Expr (.Constant (.str _) _ _) _ => true
  | _ => false
def chkBody (N : List Str) (ss : Ss) (sc : Scope) (body : List Stmt) : Bool := match body with
  | st :: sts => if isDoc st then chkSs N ss sc sts else chkSs N ss sc (st :: sts)
  | [] => false
def scopeOk (N ps : List Str) (sc : Scope) : Bool :=
  (match sc.kind with | .function => true | _ => false) && !sc.isCoroutine && !sc.isGenerator && decide N.Nodup && decide (N.take ps.length = ps) && (ps.all fun x => sc.names.lookup x == some .local || sc.names.lookup x == some .cell) && (sc.names.all fun y => y.2 != .free)
theorem scope_of {N ps : List Str} {sc : Scope} (h : scopeOk N ps sc = true) : FnScope N ps sc := by
  simp only [scopeOk, Bool.and_eq_true, decide_eq_true_eq, Bool.not_eq_true', List.all_eq_true, Bool.or_eq_true, beq_iff_eq, bne_iff_ne] at h
  obtain ⟨⟨⟨⟨⟨⟨h1, h2⟩, h3⟩, h4⟩, h5⟩, h6⟩, h7⟩ := h
  refine ⟨?_, h2, h3, h4, h5, h6, h7⟩
  split at h1
  · assumption
  · cases h1
section
variable {P : Program} {w : World} {K : PySem.W.Frag} {mg : Str → Option Value} {base : Heap} {k : Nat} {f : Addr} {fd : FuncData} {N ps : List Str} {x qual : Str} {st : Stmt} {Γ : Tab} {ss : Ss}
theorem body_snd {cdv : Value} {A : Around} {outer : List Env} {s : Shared} {H : Hp} (S : FnScope N ps (defScope st)) (T : TabOk P w K mg base Γ k) (hc : chkBody N ss (defScope st) (defBody st) = true)
    (hr : Room k (A.deeper (envOfC qual (defScope st) s.heap.objs.size f cdv))) (hg : A.guards = some []) :
    PSs (cxOf CX0 P w K mg base N qual (defScope st) f cdv A outer s H E0).nox (defBody st) (tS Γ K (exSs Γ ss)) := by
  have G : Good Γ k N (defScope st) (cxOf CX0 P w K mg base N qual (defScope st) f cdv A outer s H E0).nox :=
    { calm := rfl, N_ := rfl, nd := S.nd, room := hr, guards := hg, kinds := fun x q h => ⟨q, h, .inl rfl⟩, fn := fun _ _ => rfl, tab := T }
  have go : ∀ {sts : List Stmt}, chkSs N ss (defScope st) sts = true → PSs (cxOf CX0 P w K mg base N qual (defScope st) f cdv A outer s H E0).nox sts (tS Γ K (exSs Γ ss)) := fun h => sndSs ss _ _ _ G S.kind (PassesOwn.never) h
  unfold chkBody at hc
  split at hc
  · rename_i st' sts e
    split at hc
    · rename_i hd
      have e2 : ∃ x j p p', st' = .Expr (.Constant (.str x) j p) p' := by
        cases st' <;> try (exact (Bool.false_ne_true hd).elim)
        rename_i v p'
        cases v <;> try (exact (Bool.false_ne_true hd).elim)
        rename_i c j p
        cases c <;> try (exact (Bool.false_ne_true hd).elim)
        exact ⟨_, _, _, _, rfl⟩
      obtain ⟨x, j, p, p', rfl⟩ := e2
      rw [e]
      have := pss_cons (X := (cxOf CX0 P w K mg base N qual (defScope st) f cdv A outer s H E0).nox) (ps_doc (x := x) (j := j) (pos := p) (pos' := p')) (go hc)
      exact ⟨fun pins s σ H D I h => this.run pins s σ H D I h⟩
    · rw [e]; exact go hc
  · cases hc
/-- the slots at the entry -/
def startD (N : List Str) (xs : List Sl) : Dl := xs ++ List.replicate (N.length - xs.length) .no
theorem start_get {vs : List V} {xs : List Sl} (hl : xs.length = vs.length) {i : Nat} {s : Sl} (h : (startD N xs)[i]? = some s) (hs : s ≠ .no) : xs[i]? = some s ∧ (L2.start N vs)[i]? = (vs[i]?).map some := by
  unfold startD at h
  unfold L2.start
  by_cases c : i < xs.length
  · rw [List.getElem?_append_left c] at h
    refine ⟨h, ?_⟩
    rw [List.getElem?_append_left (by simpa using hl ▸ c), List.getElem?_map]
  · rw [List.getElem?_append_right (by omega)] at h
    have := List.getElem?_replicate (a := Sl.no) (n := N.length - xs.length) (i := i - xs.length)
    rw [this] at h
    split at h
    · cases h; exact absurd rfl hs
    · cases h
/-- what a body's end tells -/
def endsIn (fl : Fl) (d : D) (fr : Bool) (q : Pot → Prop) : Prop := (∃ fr' π, fl = .rt d fr' π ∧ (fr = true → fr' = true ∨ ∀ xs, d ≠ .list xs) ∧ q π) ∨ (d = .none ∧ ∃ δ π, fl = .nx δ π ∧ q π)
theorem start_stt {H : Hp} {O : Addr → Prop} {ds : List D} {vs : List V} (ok : OkO O H) (r : RpAll K O H vs ds) (hN : ds.length ≤ N.length) : Stt K H O none O (L2.start N vs) H (startD N (ds.map .val)) none := by
  have hl := r.length
  have nown : ∀ (i : Nat) (s : Sl), (startD N (ds.map .val))[i]? = some s → s = .no ∨ ∃ d v, s = .val d ∧ ds[i]? = some d ∧ (L2.start N vs)[i]? = some (some v) ∧ Rp K O H v d := fun i s h => by
    by_cases c : s = .no
    · exact .inl c
    · obtain ⟨h1, h2⟩ := start_get (vs := vs) (by simp [hl]) h c
      rw [List.getElem?_map] at h1
      cases q : ds[i]? with
      | none => rw [q] at h1; cases h1
      | some d =>
        rw [q] at h1; cases h1
        obtain ⟨v, h3, h4⟩ := r.get q
        exact .inr ⟨d, v, rfl, rfl, by rw [h2, h3]; rfl, h4⟩
  refine ⟨⟨?_, fun i d h => ?_, fun i d h => ?_, fun i h => ?_, fun i ns h => ?_, fun p e => (by cases e), ok⟩, fun a h => h, fun p e => (by cases e), ok, fun i d a h => ?_, fun i j d e a hij h => ?_, SameX.refl⟩
  · simp [startD, L2.start, hl]
  · rcases nown i _ h with z | ⟨d', v, z, h1, h2, h3⟩
    · cases z
    · cases z; exact ⟨v, h2, h3⟩
  · rcases nown i _ h with z | ⟨d', v, z, _⟩ <;> cases z
  · rcases nown i _ h with z | ⟨d', v, z, _⟩ <;> cases z
  · rcases nown i _ h with z | ⟨d', v, z, _⟩ <;> cases z
  · rcases nown i _ h with z | ⟨d', v, z, _⟩ <;> cases z
  · rcases nown i _ h with z | ⟨d', v, z, _⟩ <;> cases z
theorem same_none {H H' : Hp} (s : SameX none H H') : Same H H' := fun b o e => s b o (fun z => by cases z) e
/-- a def -/
theorem defF {g : List D → Option D} {fr : Bool} (F : Fun K x qual st f fd) (hS : scopeOk N ps (defScope st) = true) (T : TabOk P w K mg base Γ k) (hc : chkBody N ss (defScope st) (defBody st) = true) (hN : ps.length ≤ N.length)
    (hg : ∀ ds d, g ds = some d → ds.length = ps.length ∧ ∃ n fl, exSs Γ ss n (startD N (ds.map .val)) none = some fl ∧ endsIn fl d fr fun _ => True) : FnG P w K mg base (k + 1) f fd ps (spF K ps.length g fr) := by
  have S := scope_of hS
  refine FnG.of_body F S (fun vs H Q E h => h.1) fun cdv A outer s H vs Q hr hgd hsp => ⟨_, body_snd S T hc hr hgd, ?_⟩
  obtain ⟨hl, O, ds, d, ok, r, hgd', q⟩ := hsp
  obtain ⟨h1, n, fl, h2, h3⟩ := hg ds d hgd'
  refine ⟨H, O, none, O, _, none, n, fl, start_stt ok r (by omega), h2, ?_⟩
  rcases h3 with ⟨fr', π, rfl, h4, _⟩ | ⟨rfl, δ, π, rfl, _⟩
  · intro v H1 s1 p1 r1 f1
    refine q v H1 (same_none s1) r1 fun z => ?_
    rcases h4 z with h5 | h5
    · exact f1 h5
    · exact fresh_flat h5
  · intro O' σ' H1 S1 E1
    exact q _ H1 (same_none S1.keep) .non fun _ => fresh_flat fun xs z => by cases z
theorem RpAll.int2 {O : Addr → Prop} {H : Hp} {ws : List V} {i j : Int} (r : RpAll K O H ws [.int i, .int j]) : ws = [.int i, .int j] := by
  cases r with
  | cons r1 r2 =>
    cases r2 with
    | cons r3 r4 => cases r1; cases r3; cases r4; rfl
/-- a def that makes a pot -/
theorem defS {g : List Int → Int → Option (Int × Int)} (F : Fun K x qual st f fd) (hS : scopeOk N ps (defScope st) = true) (T : TabOk P w K mg base Γ k) (hc : chkBody N ss (defScope st) (defBody st) = true) (hps : ps.length = 2) (hN : 2 ≤ N.length)
    (hg : ∀ ns i x y, g ns i = some (x, y) → ∃ n π, exSs Γ ss n (startD N [.scr ns, .val (.int i)]) none = some (.rt (.list [.int x, .int y]) true π)) : FnG P w K mg base (k + 1) f fd ps (spS K g) := by
  have S := scope_of hS
  refine FnG.of_body F S (fun vs H Q E h => h.1.trans hps.symm) fun cdv A outer s H vs Q hr hgd hsp => ⟨_, body_snd S T hc hr hgd, ?_⟩
  obtain ⟨hl, a, ns, i, x, y, rfl, hq, hgd', q⟩ := hsp
  obtain ⟨n, π, h2⟩ := hg ns i x y hgd'
  have key : ∀ (j : Nat) (s : Sl), (startD N [.scr ns, .val (.int i)])[j]? = some s → s = .no ∨ (j = 0 ∧ s = .scr ns ∧ (L2.start N [V.ref a, .int i])[j]? = some (some (.ref a))) ∨ (j = 1 ∧ s = .val (.int i) ∧ (L2.start N [V.ref a, .int i])[j]? = some (some (.int i))) := fun j s h => by
    by_cases c : s = .no
    · exact .inl c
    · obtain ⟨h1, h2⟩ := start_get (vs := [V.ref a, .int i]) rfl h c
      rcases j with _ | _ | j
      · cases h1; exact .inr (.inl ⟨rfl, rfl, h2⟩)
      · cases h1; exact .inr (.inr ⟨rfl, rfl, h2⟩)
      · cases h1
  have st : Stt K H (fun _ => False) none (fun _ => False) (L2.start N [V.ref a, .int i]) H (startD N [.scr ns, .val (.int i)]) none := by
    refine ⟨⟨?_, fun j d h => ?_, fun j d h => ?_, fun j h => ?_, fun j ms h => ?_, fun p e => (by cases e), fun a h => h.elim⟩, fun a h => h, fun p e => (by cases e), fun a h => h.elim, fun j d b h => ?_, fun j l d e b hij h => ?_, SameX.refl⟩
    · simp [startD, L2.start]
    · rcases key j _ h with z | ⟨_, z, _⟩ | ⟨_, z, h1⟩
      · cases z
      · cases z
      · cases z; exact ⟨_, h1, .int _⟩
    · rcases key j _ h with z | ⟨_, z, _⟩ | ⟨_, z, _⟩ <;> cases z
    · rcases key j _ h with z | ⟨_, z, _⟩ | ⟨_, z, _⟩ <;> cases z
    · rcases key j _ h with z | ⟨_, z, h1⟩ | ⟨_, z, _⟩
      · cases z
      · cases z; exact ⟨a, h1, hq⟩
      · cases z
    · rcases key j _ h with z | ⟨_, z, _⟩ | ⟨_, z, _⟩ <;> cases z
    · rcases key j _ h with z | ⟨_, z, _⟩ | ⟨_, z, _⟩ <;> cases z
  refine ⟨H, fun _ => False, none, fun _ => False, _, none, n, _, st, h2, fun v H1 s1 p1 r1 f1 => ?_⟩
  obtain ⟨p, ws, rfl, e1, e2, e3⟩ := f1 rfl _ rfl
  rw [RpAll.int2 e3] at e2
  exact q p H1 (same_none s1) e1 e2
/-- a def that draws -/
theorem defP {n0 : Nat} {g : List D → Int × Int → Option (D × (Int × Int))} {fr : Bool} (F : Fun K x qual st f fd) (hS : scopeOk N ps (defScope st) = true) (T : TabOk P w K mg base Γ k) (hc : chkBody N ss (defScope st) (defBody st) = true) (hps : ps.length = n0 + 1) (hN : ps.length ≤ N.length)
    (hg : ∀ ds xy d xy', g ds xy = some (d, xy') → ds.length = n0 ∧ ∃ n fl, exSs Γ ss n (startD N (.pot :: ds.map .val)) (some xy) = some fl ∧ endsIn fl d fr fun π => π = some xy') : FnG P w K mg base (k + 1) f fd ps (spP K n0 g fr) := by
  have S := scope_of hS
  refine FnG.of_body F S (fun vs H Q E h => h.1.trans hps.symm) fun cdv A outer s H vs Q hr hgd hsp => ⟨_, body_snd S T hc hr hgd, ?_⟩
  obtain ⟨hl, O, p, ws, x, y, ds, d, x', y', rfl, hp, hO, ok, r, hgd', q⟩ := hsp
  obtain ⟨h1, n, fl, h2, h3⟩ := hg ds _ d _ hgd'
  have hrl := r.length
  have key : ∀ (j : Nat) (s : Sl), (startD N (.pot :: ds.map .val))[j]? = some s → s = .no ∨ (s = .pot ∧ (L2.start N (V.ref p :: ws))[j]? = some (some (.ref p))) ∨ ∃ d v, s = .val d ∧ (L2.start N (V.ref p :: ws))[j]? = some (some v) ∧ Rp K O H v d := fun j s h => by
    by_cases c : s = .no
    · exact .inl c
    · obtain ⟨h1, h2⟩ := start_get (vs := V.ref p :: ws) (by simp [hrl]) h c
      rcases j with _ | j
      · cases h1; exact .inr (.inl ⟨rfl, h2⟩)
      · simp only [List.getElem?_cons_succ, List.getElem?_map] at h1 h2
        cases q : ds[j]? with
        | none => rw [q] at h1; cases h1
        | some d =>
          rw [q] at h1; cases h1
          obtain ⟨v, h3, h4⟩ := r.get q
          exact .inr (.inr ⟨d, v, rfl, by rw [h2, h3]; rfl, h4⟩)
  have st : Stt K H O (some p) O (L2.start N (V.ref p :: ws)) H (startD N (.pot :: ds.map .val)) (some (x, y)) := by
    refine ⟨⟨?_, fun j d h => ?_, fun j d h => ?_, fun j h => ?_, fun j ms h => ?_, fun c e => ?_, ok⟩, fun a h => h, fun c e => ?_, ok, fun j d b h => ?_, fun j l d e b hij h => ?_, SameX.refl⟩
    · simp [startD, L2.start, hrl]
    · rcases key j _ h with z | ⟨z, _⟩ | ⟨_, v, z, h1, h2⟩
      · cases z
      · cases z
      · cases z; exact ⟨v, h1, h2⟩
    · rcases key j _ h with z | ⟨z, _⟩ | ⟨_, v, z, _⟩ <;> cases z
    · rcases key j _ h with z | ⟨_, h1⟩ | ⟨_, v, z, _⟩
      · cases z
      · exact ⟨p, rfl, h1⟩
      · cases z
    · rcases key j _ h with z | ⟨z, _⟩ | ⟨_, v, z, _⟩ <;> cases z
    · cases e; exact ⟨hO, x, y, rfl, hp⟩
    · cases e; exact hO
    · rcases key j _ h with z | ⟨z, _⟩ | ⟨_, v, z, _⟩ <;> cases z
    · rcases key j _ h with z | ⟨z, _⟩ | ⟨_, v, z, _⟩ <;> cases z
  refine ⟨H, O, some p, O, _, _, n, fl, st, h2, ?_⟩
  have fin : ∀ {H1 : Hp}, PotAt (some p) H1 (some (x', y')) → H1 p = some (.lst [.int x', .int y']) := fun h => by
    obtain ⟨i, j, e1, e2⟩ := h p rfl
    cases e1; exact e2
  rcases h3 with ⟨fr', π, rfl, h4, rfl⟩ | ⟨rfl, δ, π, rfl, rfl⟩
  · intro v H1 s1 p1 r1 f1
    refine q v H1 s1 (fin p1) r1 fun z => ?_
    rcases h4 z with h5 | h5
    · exact f1 h5
    · exact fresh_flat h5
  · intro O' σ' H1 S1 E1
    exact q _ H1 S1.keep (fin S1.rs.potAt) .non fun _ => fresh_flat fun xs z => by cases z
/-- law(script): True -/
def spL (K : PySem.W.Frag) (ok : List Int → Prop) : Sp := fun vs H Q _ => vs.length = 1 ∧ ∃ a ns, vs = [.ref a] ∧ SqF K H a (ns.map V.int) ∧ ok ns ∧ ∀ H', Same H H' → Q (.bl true) H'
theorem defL {ok : List Int → Prop} (F : Fun K x qual st f fd) (hS : scopeOk N ps (defScope st) = true) (T : TabOk P w K mg base Γ k) (hc : chkBody N ss (defScope st) (defBody st) = true) (hps : ps.length = 1) (hN : 1 ≤ N.length)
    (hg : ∀ ns, ok ns → ∃ n fr π, exSs Γ ss n (startD N [.scr ns]) none = some (.rt (.bool true) fr π)) : FnG P w K mg base (k + 1) f fd ps (spL K ok) := by
  have S := scope_of hS
  refine FnG.of_body F S (fun vs H Q E h => h.1.trans hps.symm) fun cdv A outer s H vs Q hr hgd hsp => ⟨_, body_snd S T hc hr hgd, ?_⟩
  obtain ⟨hl, a, ns, rfl, hq, hok, q⟩ := hsp
  obtain ⟨n, fr, π, h2⟩ := hg ns hok
  have key : ∀ (j : Nat) (s : Sl), (startD N [.scr ns])[j]? = some s → s = .no ∨ (s = .scr ns ∧ (L2.start N [V.ref a])[j]? = some (some (.ref a))) := fun j s h => by
    by_cases c : s = .no
    · exact .inl c
    · obtain ⟨h1, h2⟩ := start_get (vs := [V.ref a]) rfl h c
      rcases j with _ | j
      · cases h1; exact .inr ⟨rfl, h2⟩
      · cases h1
  have st : Stt K H (fun _ => False) none (fun _ => False) (L2.start N [V.ref a]) H (startD N [.scr ns]) none := by
    refine ⟨⟨?_, fun j d h => ?_, fun j d h => ?_, fun j h => ?_, fun j ms h => ?_, fun p e => (by cases e), fun a h => h.elim⟩, fun a h => h, fun p e => (by cases e), fun a h => h.elim, fun j d b h => ?_, fun j l d e b hij h => ?_, SameX.refl⟩
    · simp [startD, L2.start]
    · rcases key j _ h with z | ⟨z, _⟩ <;> cases z
    · rcases key j _ h with z | ⟨z, _⟩ <;> cases z
    · rcases key j _ h with z | ⟨z, _⟩ <;> cases z
    · rcases key j _ h with z | ⟨z, h1⟩
      · cases z
      · cases z; exact ⟨a, h1, hq⟩
    · rcases key j _ h with z | ⟨z, _⟩ <;> cases z
    · rcases key j _ h with z | ⟨z, _⟩ <;> cases z
  refine ⟨H, fun _ => False, none, fun _ => False, _, none, n, _, st, h2, fun v H1 s1 p1 r1 f1 => ?_⟩
  cases r1
  exact q H1 (same_none s1)
end
end Z
/-! the law's own call -/
namespace Z
open PySem L2 PySem.Spec PyProof.Rows
/-- the heap in which the script alone may be known -/
def oneHp (a : Addr) (t : Option HO) : Hp := fun c => if c = a then t else none
theorem oneHp_at {a : Addr} {t : Option HO} : oneHp a t a = t := if_pos rfl
theorem oneHp_ne {a c : Addr} {t : Option HO} (h : c ≠ a) : oneHp a t c = none := if_neg h
theorem oneHp_some {a c : Addr} {t : Option HO} {u : HO} (h : oneHp a t c = some u) : c = a ∧ t = some u := by
  by_cases e : c = a
  · subst e; rw [oneHp_at] at h; exact ⟨rfl, h⟩
  · rw [oneHp_ne e] at h; cases h
section
variable {P : Program} {w : World} {K : PySem.W.Frag} {mg mb : Str → Option Value} {k : Nat} {fa a : Addr} {fd : FuncData} {x : Str} {ok : List Int → Prop} {s : Shared} {us : List Value} {ns : List Int}
abbrev scObj (us : List Value) : Obj := { cls := .type "list", data := .seq us.toArray }
theorem law_runs {t : Option HO} (hK : K.In s.heap) (hG : s.heap.Ns mainGlobals mg) (hB : s.heap.Ns builtinsNs mb) (hBB : ∀ y : Str, y ≠ "__name__" → mb y = bootBuiltins y) (hL : s.heap.NoLimit) (hg : s.gens = #[])
    (ha : s.heap.get? a = some (scObj us)) (hr : Room k callerA) (F : ∀ base : Heap, K.In base → base.Ns mainGlobals mg → FnG P w K mg base k fa fd [x] (spL K ok)) (hb : ∀ (s : Shared) (u : Value), BindsTo s fd ⟨[u], []⟩ [(x, u)]) (hok : ok ns)
    (ht : t = none ∨ (t = some (.frz (scObj us) (.lst (ns.map V.int))) ∧ K.lookup a = none)) (hq : SqF K (oneHp a t) a (ns.map V.int)) (hH : HOk P w (oneHp a t) s.heap) :
    codeAny (model P w) callerA (.call (.ref fa) ⟨[.ref a], []⟩) (fun r s' => r = .ok (.ret (.bool true)) ∧ OldK s.heap s'.heap ∧ s'.os = s.os ∧ AllBare s'.gens) s := by
  -- what is not the script stays to be seen by the module
  have vis : ∀ {c : Addr} {o : Obj}, s.heap.get? c = some o → (c = a → t = none) → (hidT s.heap (oneHp a t)).get? c = some o := fun {c o} e n => hidT_get e (by
    by_cases z : c = a
    · rw [z, oneHp_at]; exact n z
    · exact oneHp_ne z)
  have ns_of : ∀ {c : Addr} {m : Str → Option Value}, s.heap.Ns c m → (hidT s.heap (oneHp a t)).Ns c m := fun {c m} ⟨o, es, ep, e, d, r⟩ => ⟨o, es, ep, vis e (fun z => by
    subst z
    rw [ha] at e
    cases e
    exact absurd d (fun q => by cases q)), d, r⟩
  have kin : K.In (hidT s.heap (oneHp a t)) := fun c o e => vis (hK c o e) fun z => by
    rcases ht with q | ⟨_, q⟩
    · exact q
    · rw [z, q] at e; cases e
  have md : Mod K mg (hidT s.heap (oneHp a t)) := ⟨kin, ns_of hG, ⟨mb, ns_of hB, hBB⟩, by obtain ⟨mc, q1, q2⟩ := hL; exact ⟨mc, ns_of q1, q2⟩⟩
  have env : Env0 P w K mg (hidT s.heap (oneHp a t)) callerA [] s (oneHp a t) :=
    ⟨rfl, md, fun c o e => of_hidT e, Nat.le_of_eq (hidT_size _ _), trivial, fun c hc => absurd (show c ∈ ([] : List Addr) from hc) (by simp), hH, .of_eq hg⟩
  have run := (F _ kin (ns_of hG)).run callerA [] s (oneHp a t) ⟨[.ref a], []⟩ [.ref a] [.ref a] (fun v _ => v = .bl true) hr rfl env (hb s (.ref a)) (.cons rfl .nil) ⟨rfl, a, ns, rfl, hq, hok, fun _ _ => rfl⟩
  refine codeAny_mono run fun r s' h => ?_
  cases r with
  | error e => exact h.elim
  | ok fl =>
    cases fl with
    | ret u =>
      obtain ⟨v, H', e1, e2, e3, e4, e5, e6⟩ := h
      have e6' : v = .bl true := e6
      subst e6'
      have eu : u = Value.bool true := e5
      subst eu
      refine ⟨rfl, OldK.of_keep fun c o e => ?_, e1, e2⟩
      cases q : oneHp a t c with
      | none => exact e3.keep c o e q (fun z => by cases z) (by simp)
      | some y =>
        obtain ⟨rfl, q2⟩ := oneHp_some q
        rcases ht with z | ⟨z, _⟩
        · rw [z] at q2; cases q2
        · rw [z] at q2
          cases q2
          have g1 := (hH _ _ q).1
          have g2 := (e4 _ _ (e3.frzs _ _ _ q)).1
          rw [e] at g1; cases g1
          exact g2
    | next => exact h.elim
    | brk => exact h.elim
    | cont => exact h.elim
theorem law_callG (hK : K.In s.heap) (hG : s.heap.Ns mainGlobals mg) (hB : s.heap.Ns builtinsNs mb) (hBB : ∀ y : Str, y ≠ "__name__" → mb y = bootBuiltins y) (hL : s.heap.NoLimit) (hg : s.gens = #[])
    (ha : s.heap.get? a = some (scObj us)) (hi : IntsAre us ns) (hl : ns.length ≤ sizeLine) (hr : Room k callerA) (F : ∀ base : Heap, K.In base → base.Ns mainGlobals mg → FnG P w K mg base k fa fd [x] (spL K ok)) (hb : ∀ (s : Shared) (u : Value), BindsTo s fd ⟨[u], []⟩ [(x, u)]) (hok : ok ns) :
    codeAny (model P w) callerA (.call (.ref fa) ⟨[.ref a], []⟩) (fun r s' => r = .ok (.ret (.bool true)) ∧ OldK s.heap s'.heap ∧ s'.os = s.os ∧ AllBare s'.gens) s := by
  have rv := vals_ints hi
  have hz : (ns.map V.int).length ≤ sizeLine := by rw [List.length_map]; exact hl
  cases q : K.lookup a with
  | none =>
    refine law_runs (t := some (.frz (scObj us) (.lst (ns.map V.int)))) hK hG hB hBB hL hg ha hr F hb hok (.inr ⟨rfl, q⟩) (.inl ⟨_, oneHp_at⟩) fun c u e => ?_
    obtain ⟨rfl, e2⟩ := oneHp_some e
    cases e2
    exact ⟨ha, hz, us, _, rv, ha⟩
  | some o =>
    have e := hK a o q
    rw [ha] at e
    cases e
    have hs : us.toArray.size ≤ sizeLine := by rw [List.size_toArray, hi.length]; exact hl
    exact law_runs (t := none) hK hG hB hBB hL hg ha hr F hb hok (.inl rfl) (.inr (.inr ⟨_, us.toArray, _, q, rfl, rfl, rfl, hs, by simpa using rv⟩)) fun c u z => by
      obtain ⟨_, z2⟩ := oneHp_some z
      cases z2
end
theorem walkG {l : PySem.W.OpenLaw} {n k : Nat} {q : Program} {loose : List Str} {XP : (Str → Option Value) → Heap → Prop} {YP : World → Heap → Prop} {d : DefRec} {K : Params → PySem.W.Frag} {x : Str} {ok : List Int → Prop}
    (hn : l.most = some n) (hz : n ≤ sizeLine) (hdf : d.params.defaults = []) (hr : Room k callerA) (hY : ∀ (w : World) (h : Heap), YP w h → (K w.params).In h) (hok : ∀ ns, ns.length ≤ n → ok ns)
    (F : ∀ (w : World) (mg : Str → Option Value) (fa : Addr) (h : Heap), (K w.params).In h → h.Ns mainGlobals mg → mg d.name = some (.ref fa) →
      ∃ fd : FuncData, (∀ (s : Shared) (u : Value), BindsTo s fd ⟨[u], []⟩ [(x, u)]) ∧ ∀ base : Heap, (K w.params).In base → base.Ns mainGlobals mg → FnG l.prog w (K w.params) mg base k fa fd [x] (spL (K w.params) ok)) :
    PySem.W.WalkO q loose XP YP l.row.toRowW d [] (fun f vs => PySem.call f vs) :=
  Att.attach_call hn hdf fun w s₀ s₁ mg mb fa o pm cd doc a us ns G Y _ _ _ hmg hobj hints hlen hg => by
    have hK := hY w _ Y
    obtain ⟨fd, hb, hF⟩ := F w mg fa _ hK G.T.g hmg
    exact law_callG hK G.T.g G.T.b G.T.builtins G.T.nolimit hg hobj hints (Nat.le_trans hlen hz) hr hF hb (hok ns hlen)
end Z
/-! tables of defs -/
namespace Z
open PySem L2 PySem.Spec PyProof.Rows
def notL : D → Bool
  | .list _ => false
  | _ => true
def runF (Γ : Tab) (N : List Str) (ss : Ss) (fr : Bool) (n m : Nat) (ds : List D) : Option D :=
  if ds.length = m then match exSs Γ ss n (startD N (ds.map .val)) none with
    | some (.rt d fr' _) => if !fr || fr' || notL d then some d else none
    | some (.nx _ _) => some .none
    | none => none
  else none
def runP (Γ : Tab) (N : List Str) (ss : Ss) (fr : Bool) (n m : Nat) (ds : List D) (xy : Int × Int) : Option (D × (Int × Int)) :=
  if ds.length = m then match exSs Γ ss n (startD N (.pot :: ds.map .val)) (some xy) with
    | some (.rt d fr' (some xy')) => if !fr || fr' || notL d then some (d, xy') else none
    | some (.nx _ (some xy')) => some (.none, xy')
    | _ => none
  else none
def runS (Γ : Tab) (N : List Str) (ss : Ss) (n : Nat) (ns : List Int) (i : Int) : Option (Int × Int) :=
  match exSs Γ ss n (startD N [.scr ns, .val (.int i)]) none with
    | some (.rt (.list [.int x, .int y]) true _) => some (x, y)
    | _ => none
def runL (Γ : Tab) (N : List Str) (ss : Ss) (n : Nat) (ns : List Int) : Prop := ∃ fr π, exSs Γ ss n (startD N [.scr ns]) none = some (.rt (.bool true) fr π)
def Tab.addF (Γ : Tab) (x : Str) (g : List D → Option D) (fr : Bool) (kws : List (List Str × List Nat)) : Tab :=
  { Γ with fn := fun y => if y == x then some g else Γ.fn y, fresh := fun y => if y == x then fr else Γ.fresh y, kw := fun y ks perm => if y == x then kws.any fun p => p.1 == ks && p.2 == perm else Γ.kw y ks perm }
def Tab.addP (Γ : Tab) (x : Str) (g : List D → Int × Int → Option (D × (Int × Int))) (fr : Bool) : Tab :=
  { Γ with pf := fun y => if y == x then some g else Γ.pf y, fresh := fun y => if y == x then fr else Γ.fresh y }
def Tab.addS (Γ : Tab) (x : Str) (g : List Int → Int → Option (Int × Int)) : Tab := { Γ with sf := fun y => if y == x then some g else Γ.sf y }
def Tab.addG (Γ : Tab) (x : Str) (d : D) : Tab := { Γ with glb := fun y => if y == x then some d else Γ.glb y }
def tab0 : Tab := ⟨fun _ => none, fun _ => none, fun _ => none, fun _ => false, fun _ => none, fun _ _ _ => false⟩
def BindAll (x : Str) (st : Stmt) (ps : List Str) : Prop := ∀ (kV doc pm : Value) (an : Option Addr) (cdv ct : Value) (us : List Value), us.length = ps.length →
  bindArgs (PySem.W.fnOf x x (defArgs st) (defBody st) (defScope st) .none kV doc pm an cdv ct) ⟨us, []⟩ = pure (ps.zip us)
def BindKw (x : Str) (st : Stmt) (ps ks : List Str) (perm : List Nat) : Prop := ∀ (kV doc pm : Value) (an : Option Addr) (cdv ct : Value) (us ws : List Value), us.length = perm.length - ks.length → ws.length = ks.length →
  bindArgs (PySem.W.fnOf x x (defArgs st) (defBody st) (defScope st) .none kV doc pm an cdv ct) ⟨us, ks.zip ws⟩ = pure (ps.zip (perm.map fun i => (us ++ ws).getD i .none))
structure Dx (K : PySem.W.Frag) (mg : Str → Option Value) (x : Str) (st : Stmt) : Prop where
  ex : ∃ f fd, mg x = some (.ref f) ∧ Fun K x x st f fd
section
variable {P : Program} {w : World} {K : PySem.W.Frag} {mg : Str → Option Value} {base : Heap} {k : Nat} {N ps : List Str} {x : Str} {st : Stmt} {Γ : Tab} {ss : Ss}
theorem dx_mk {h : Heap} {f : Addr} {oc : Value} {od an : Option Addr} {osl : Array (Option Value)} {kV doc pm cdv ct : Value} (X : K.In h) (G : h.Ns mainGlobals mg) (a : PySem.W.nsIn K mainGlobals x = some (some (.ref f)))
    (l : K.lookup f = some ⟨oc, od, .func (PySem.W.fnOf x x (defArgs st) (defBody st) (defScope st) .none kV doc pm an cdv ct), osl⟩) (c : PySem.W.codeIn K cdv x = true) (k : PySem.W.keepIn K (.ref f) = true) : Dx K mg x st :=
  ⟨f, _, PySem.W.mg_of X G a, fun_mk l c k⟩
theorem Dx.binds {f : Addr} {fd : FuncData} (F : Fun K x x st f fd) (hb : BindAll x st ps) : Binds K fd ps [] := F.binds fun kV doc pm an cdv ct us hl => hb kV doc pm an cdv ct us hl
theorem Dx.kwb {f : Addr} {fd : FuncData} {ks : List Str} {perm : List Nat} (F : Fun K x x st f fd) (hb : BindKw x st ps ks perm) : KwB K fd ps ks perm := fun s us ws _ h1 h2 => by
  obtain ⟨oc, od, kV, doc, pm, an, cdv, ct, osl, rfl, lk, hcd⟩ := F.ex
  refine .of_eq (hb kV doc pm an cdv ct us ws ?_ h2)
  rw [List.length_append] at h1
  omega
theorem TabOk.mono {j : Nat} (T : TabOk P w K mg base Γ k) (h : k ≤ j) : TabOk P w K mg base Γ j where
  fn := fun f g e => let ⟨fa, fd, ps, h1, h2, h3, h4⟩ := T.fn f g e; ⟨fa, fd, ps, h1, h2, h3.mono h, h4⟩
  pf := fun f g e => let ⟨fa, fd, ps, n, h1, h2, h3, h4, h5⟩ := T.pf f g e; ⟨fa, fd, ps, n, h1, h2, h3, h4.mono h, h5⟩
  sf := fun f g e => let ⟨fa, fd, ps, h1, h2, h3, h4⟩ := T.sf f g e; ⟨fa, fd, ps, h1, h2, h3.mono h, h4⟩
  glb := T.glb
  blt := T.blt
theorem tab0_ok (hb : ∀ y ∈ bltNames, mg y = none) : TabOk P w K mg base tab0 k where
  fn := fun f g e => by cases e
  pf := fun f g e => by cases e
  sf := fun f g e => by cases e
  glb := fun f g e => by cases e
  blt := hb
theorem TabOk.addG {d : D} (T : TabOk P w K mg base Γ k) (h : ∃ u v, mg x = some u ∧ VRel v u ∧ ∀ O H, Rp K O H v d) : TabOk P w K mg base (Γ.addG x d) k where
  fn := T.fn
  pf := T.pf
  sf := T.sf
  glb := fun y d' e => by
    simp only [Tab.addG] at e
    split at e
    · rename_i hy
      cases e
      rw [beq_iff_eq.mp hy]
      exact h
    · exact T.glb y d' e
  blt := T.blt
theorem TabOk.addI {h : Heap} {i : Int} {t : Tok} (T : TabOk P w K mg base Γ k) (X : K.In h) (G : h.Ns mainGlobals mg) (a : PySem.W.nsIn K mainGlobals x = some (some (.int i t))) : TabOk P w K mg base (Γ.addG x (.int i)) k :=
  T.addG ⟨_, .int i, PySem.W.mg_of X G a, ⟨t, rfl⟩, fun _ _ => .int i⟩
theorem TabOk.addT {h : Heap} {y : Str} {t : Tok} (T : TabOk P w K mg base Γ k) (X : K.In h) (G : h.Ns mainGlobals mg) (a : PySem.W.nsIn K mainGlobals x = some (some (.str y t))) : TabOk P w K mg base (Γ.addG x (.str y)) k :=
  T.addG ⟨_, .str y, PySem.W.mg_of X G a, ⟨t, rfl⟩, fun _ _ => .str y⟩
theorem runF_ok {fr : Bool} {n m : Nat} {ds : List D} {d : D} (h : runF Γ N ss fr n m ds = some d) : ds.length = m ∧ ∃ n fl, exSs Γ ss n (startD N (ds.map .val)) none = some fl ∧ endsIn fl d fr fun _ => True := by
  unfold runF at h
  split at h
  · rename_i hl
    refine ⟨hl, n, ?_⟩
    split at h
    · rename_i d' fr' π e
      split at h
      · rename_i hc
        cases h
        refine ⟨_, e, .inl ⟨fr', π, rfl, fun z => ?_, trivial⟩⟩
        subst z
        simp only [Bool.not_true, Bool.false_or, Bool.or_eq_true] at hc
        rcases hc with hc | hc
        · exact .inl hc
        · exact .inr fun xs z => by subst z; cases hc
      · cases h
    · rename_i δ π e
      cases h
      exact ⟨_, e, .inr ⟨rfl, δ, π, rfl, trivial⟩⟩
    · cases h
  · cases h
theorem runP_ok {fr : Bool} {n m : Nat} {ds : List D} {xy xy' : Int × Int} {d : D} (h : runP Γ N ss fr n m ds xy = some (d, xy')) : ds.length = m ∧ ∃ n fl, exSs Γ ss n (startD N (.pot :: ds.map .val)) (some xy) = some fl ∧ endsIn fl d fr fun π => π = some xy' := by
  unfold runP at h
  split at h
  · rename_i hl
    refine ⟨hl, n, ?_⟩
    split at h
    · rename_i d' fr' xy2 e
      split at h
      · rename_i hc
        cases h
        refine ⟨_, e, .inl ⟨fr', _, rfl, fun z => ?_, rfl⟩⟩
        subst z
        simp only [Bool.not_true, Bool.false_or, Bool.or_eq_true] at hc
        rcases hc with hc | hc
        · exact .inl hc
        · exact .inr fun xs z => by subst z; cases hc
      · cases h
    · rename_i δ xy2 e
      cases h
      exact ⟨_, e, .inr ⟨rfl, δ, _, rfl, rfl⟩⟩
    · cases h
  · cases h
theorem runS_ok {n : Nat} {ns : List Int} {i x y : Int} (h : runS Γ N ss n ns i = some (x, y)) : ∃ n π, exSs Γ ss n (startD N [.scr ns, .val (.int i)]) none = some (.rt (.list [.int x, .int y]) true π) := by
  unfold runS at h
  split at h
  · rename_i e
    cases h
    exact ⟨n, _, e⟩
  · cases h
theorem TabOk.addF {fr : Bool} {n : Nat} {kws : List (List Str × List Nat)} (T : TabOk P w K mg base Γ k) (d : Dx K mg x st) (hS : scopeOk N ps (defScope st) = true) (hc : chkBody N ss (defScope st) (defBody st) = true) (hN : ps.length ≤ N.length) (hb : BindAll x st ps)
    (hk : ∀ p ∈ kws, BindKw x st ps p.1 p.2) (hp : Γ.pf x = none) : TabOk P w K mg base (Γ.addF x (runF Γ N ss fr n ps.length) fr kws) (k + 1) := by
  have T' := T.mono (Nat.le_succ k)
  obtain ⟨f, fd, h1, F⟩ := d.ex
  have FG := defF (g := runF Γ N ss fr n ps.length) (fr := fr) F hS T hc hN fun ds d h => runF_ok h
  refine ⟨fun y g e => ?_, fun y g e => ?_, T'.sf, T'.glb, T.blt⟩
  · simp only [Tab.addF] at e
    split at e
    · rename_i hy
      cases e
      have hy' := beq_iff_eq.mp hy
      subst hy'
      refine ⟨f, fd, ps, h1, F.kp, ?_, Dx.binds F hb, fun ds d h => (runF_ok h).1, fun ks perm hq => ?_⟩
      · have : (Γ.addF y (runF Γ N ss fr n ps.length) fr kws).fresh y = fr := by simp [Tab.addF]
        rw [this]; exact FG
      · simp only [Tab.addF, beq_self_eq_true, if_true] at hq
        obtain ⟨p, hp, hq⟩ := List.any_eq_true.mp hq
        simp only [Bool.and_eq_true, beq_iff_eq] at hq
        rw [← hq.1, ← hq.2]
        exact Dx.kwb F (hk p hp)
    · rename_i hy
      obtain ⟨fa, fd', ps', a1, a2, a3, a4, a5, a6⟩ := T'.fn y g e
      refine ⟨fa, fd', ps', a1, a2, ?_, a4, a5, fun ks perm hq => a6 ks perm ?_⟩
      · have : (Γ.addF x (runF Γ N ss fr n ps.length) fr kws).fresh y = Γ.fresh y := by simp only [Tab.addF]; rw [if_neg hy]
        rw [this]; exact a3
      · simp only [Tab.addF] at hq; rwa [if_neg hy] at hq
  · obtain ⟨fa, fd', ps', n', a1, a2, a3, a4, a5⟩ := T'.pf y g e
    by_cases hy : (y == x) = true
    · rw [beq_iff_eq.mp hy] at e
      have e' : Γ.pf x = some g := e
      rw [hp] at e'; cases e'
    · refine ⟨fa, fd', ps', n', a1, a2, a3, ?_, a5⟩
      have : (Γ.addF x (runF Γ N ss fr n ps.length) fr kws).fresh y = Γ.fresh y := by simp only [Tab.addF]; rw [if_neg hy]
      rw [this]; exact a4
theorem TabOk.addP {fr : Bool} {n m : Nat} (T : TabOk P w K mg base Γ k) (d : Dx K mg x st) (hS : scopeOk N ps (defScope st) = true) (hc : chkBody N ss (defScope st) (defBody st) = true) (hN : ps.length ≤ N.length) (hb : BindAll x st ps)
    (hm : ps.length = m + 1) (hp : Γ.fn x = none) : TabOk P w K mg base (Γ.addP x (runP Γ N ss fr n m) fr) (k + 1) := by
  have T' := T.mono (Nat.le_succ k)
  obtain ⟨f, fd, h1, F⟩ := d.ex
  have FG := defP (g := runP Γ N ss fr n m) (fr := fr) F hS T hc hm hN fun ds xy d xy' h => runP_ok h
  refine ⟨fun y g e => ?_, fun y g e => ?_, T'.sf, T'.glb, T.blt⟩
  · obtain ⟨fa, fd', ps', a1, a2, a3, a4, a5, a6⟩ := T'.fn y g e
    by_cases hy : (y == x) = true
    · rw [beq_iff_eq.mp hy] at e
      have e' : Γ.fn x = some g := e
      rw [hp] at e'; cases e'
    · refine ⟨fa, fd', ps', a1, a2, ?_, a4, a5, a6⟩
      have : (Γ.addP x (runP Γ N ss fr n m) fr).fresh y = Γ.fresh y := by simp only [Tab.addP]; rw [if_neg hy]
      rw [this]; exact a3
  · simp only [Tab.addP] at e
    split at e
    · rename_i hy
      cases e
      have hy' := beq_iff_eq.mp hy
      subst hy'
      refine ⟨f, fd, ps, m, h1, F.kp, hm, ?_, Dx.binds F hb, fun ds xy d h => (runP_ok (d := d.1) (xy' := d.2) h).1⟩
      have : (Γ.addP y (runP Γ N ss fr n m) fr).fresh y = fr := by simp [Tab.addP]
      rw [this]; exact FG
    · rename_i hy
      obtain ⟨fa, fd', ps', n', a1, a2, a3, a4, a5⟩ := T'.pf y g e
      refine ⟨fa, fd', ps', n', a1, a2, a3, ?_, a5⟩
      have : (Γ.addP x (runP Γ N ss fr n m) fr).fresh y = Γ.fresh y := by simp only [Tab.addP]; rw [if_neg hy]
      rw [this]; exact a4
theorem TabOk.addS {n : Nat} (T : TabOk P w K mg base Γ k) (d : Dx K mg x st) (hS : scopeOk N ps (defScope st) = true) (hc : chkBody N ss (defScope st) (defBody st) = true) (hN : 2 ≤ N.length) (hb : BindAll x st ps) (hm : ps.length = 2) :
    TabOk P w K mg base (Γ.addS x (runS Γ N ss n)) (k + 1) := by
  have T' := T.mono (Nat.le_succ k)
  obtain ⟨f, fd, h1, F⟩ := d.ex
  have FG := defS (g := runS Γ N ss n) F hS T hc hm hN fun ns i x y h => runS_ok h
  refine ⟨T'.fn, T'.pf, fun y g e => ?_, T'.glb, T.blt⟩
  simp only [Tab.addS] at e
  split at e
  · rename_i hy
    cases e
    have hy' := beq_iff_eq.mp hy
    subst hy'
    exact ⟨f, fd, ps, h1, F.kp, FG, Dx.binds F hb⟩
  · exact T'.sf y g e
/-- the law's def -/
theorem TabOk.law {n : Nat} {ok : List Int → Prop} {p : Str} (T : TabOk P w K mg base Γ k) {f : Addr} {fd : FuncData} (F : Fun K x x st f fd) (hS : scopeOk N [p] (defScope st) = true) (hc : chkBody N ss (defScope st) (defBody st) = true) (hN : 1 ≤ N.length)
    (hok : ∀ ns, ok ns → runL Γ N ss n ns) : FnG P w K mg base (k + 1) f fd [p] (spL K ok) :=
  defL F hS T hc rfl hN fun ns h => let ⟨fr, π, e⟩ := hok ns h; ⟨n, fr, π, e⟩
theorem lawF {n : Nat} {ok : List Int → Prop} {p : Str} {fa : Addr} (T : ∀ base : Heap, TabOk P w K mg base Γ k) (d : Dx K mg x st) (hmg : mg x = some (.ref fa)) (hb : BindAll x st [p]) (hS : scopeOk N [p] (defScope st) = true)
    (hc : chkBody N ss (defScope st) (defBody st) = true) (hN : 1 ≤ N.length) (hok : ∀ ns, ok ns → runL Γ N ss n ns) :
    ∃ fd : FuncData, (∀ (s : Shared) (u : Value), BindsTo s fd ⟨[u], []⟩ [(p, u)]) ∧ ∀ base : Heap, K.In base → base.Ns mainGlobals mg → FnG P w K mg base (k + 1) fa fd [p] (spL K ok) := by
  obtain ⟨f, fd, h1, F⟩ := d.ex
  rw [hmg] at h1
  cases h1
  refine ⟨fd, fun s u => ?_, fun base _ _ => (T base).law F hS hc hN hok⟩
  obtain ⟨oc, od, kV, doc, pm, an, cdv, ct, osl, rfl, lk, hcd⟩ := F.ex
  exact .of_eq (hb kV doc pm an cdv ct [u] rfl)
/-- .. of the part that is written out in h -/
abbrev DxAt {K : PySem.W.Frag} {h : Heap} (_ : K.In h) (mg : Str → Option Value) (x : Str) (st : Stmt) : Prop := Dx K mg x st
theorem blt_none {h : Heap} (X : K.In h) (G : h.Ns mainGlobals mg) (hb : ∀ y ∈ bltNames, PySem.W.nsIn K mainGlobals y = some none) : ∀ y ∈ bltNames, mg y = none := fun y hy => PySem.W.mg_none_of X G (hb y hy)
end
end Z
/-! plain steps -/
namespace Z
open PySem L2
section
variable {Γ : Tab} {δ : Dl} {π π' : Pot} {n : Nat}
@[simp] theorem ev_var {i : Nat} : evE Γ (.var i) δ π = (match δ[i]? with | some (.val d) => some (d, π) | some (.own d) => some (d, π) | _ => none) := by simp only [evE] <;> rfl
@[simp] theorem ev_non : evE Γ .non δ π = some (.none, π) := by simp only [evE]
@[simp] theorem ev_bl {b : Bool} : evE Γ (.bl b) δ π = some (.bool b, π) := by simp only [evE]
@[simp] theorem ev_int {i : Int} : evE Γ (.int i) δ π = some (.int i, π) := by simp only [evE]
@[simp] theorem ev_str {x : Str} : evE Γ (.str x) δ π = some (.str x, π) := by simp only [evE]
@[simp] theorem ev_glob {x : Str} : evE Γ (.glob x) δ π = (do let d ← Γ.glb x; pure (d, π)) := by simp only [evE]
@[simp] theorem ev_tup {es : Es} : evE Γ (.tup es) δ π = (do let (xs, π) ← evEs Γ es δ π; pure (.tuple xs, π)) := by simp only [evE]
@[simp] theorem ev_lst {es : Es} : evE Γ (.lst es) δ π = (do let (xs, π) ← evEs Γ es δ π; pure (.list xs, π)) := by simp only [evE]
@[simp] theorem ev_dnil : evE Γ .dnil δ π = some (.dict [], π) := by simp only [evE]
@[simp] theorem ev_add {a b : E} : evE Γ (.add a b) δ π = (do let (x, π) ← evE Γ a δ π; let (y, π) ← evE Γ b δ π; let z ← addD x y; pure (z, π)) := by simp only [evE]
@[simp] theorem ev_sub {a b : E} : evE Γ (.sub a b) δ π = (do let (x, π) ← evE Γ a δ π; let (y, π) ← evE Γ b δ π; let i ← asInt x; let j ← asInt y; pure (.int (i - j), π)) := by simp only [evE]
@[simp] theorem ev_mul {a b : E} : evE Γ (.mul a b) δ π = (do let (x, π) ← evE Γ a δ π; let (y, π) ← evE Γ b δ π; let z ← mulD x y; pure (z, π)) := by simp only [evE]
@[simp] theorem ev_fdiv {a b : E} : evE Γ (.fdiv a b) δ π = (do let (x, π) ← evE Γ a δ π; let (y, π) ← evE Γ b δ π; let z ← fdivD x y; pure (z, π)) := by simp only [evE]
@[simp] theorem ev_mod {a b : E} : evE Γ (.mod a b) δ π = (do let (x, π) ← evE Γ a δ π; let (y, π) ← evE Γ b δ π; let z ← modD x y; pure (z, π)) := by simp only [evE]
@[simp] theorem ev_pow {a b : Nat} : evE Γ (.pow a b) δ π = (if a < 100 ∧ b < 1000 then some (.int ((a : Int) ^ b), π) else none) := by simp only [evE]
@[simp] theorem ev_neg {a : E} : evE Γ (.neg a) δ π = (do let (x, π) ← evE Γ a δ π; let i ← asInt x; pure (.int (-i), π)) := by simp only [evE]
@[simp] theorem ev_cmp {o : Op} {a b : E} : evE Γ (.cmp o a b) δ π = (do let (x, π) ← evE Γ a δ π; let (y, π) ← evE Γ b δ π; let c ← cmpD o x y; pure (.bool c, π)) := by simp only [evE]
@[simp] theorem ev_cmp2 {o p : Op} {a b c : E} : evE Γ (.cmp2 o p a b c) δ π = (do
    let (x, π) ← evE Γ a δ π
    let (y, π) ← evE Γ b δ π
    let k ← cmpD o x y
    if k then
      let (z, π) ← evE Γ c δ π
      let k2 ← cmpD p y z
      pure (.bool k2, π)
    else pure (.bool false, π)) := by simp only [evE]
@[simp] theorem ev_all_ {es : Es} : evE Γ (.all_ es) δ π = evAnd Γ es δ π := by simp only [evE]
@[simp] theorem ev_any_ {es : Es} : evE Γ (.any_ es) δ π = evOr Γ es δ π := by simp only [evE]
@[simp] theorem ev_not {a : E} : evE Γ (.not a) δ π = (do let (x, π) ← evE Γ a δ π; let b ← asBool x; pure (.bool (!b), π)) := by simp only [evE]
@[simp] theorem ev_ite {c a b : E} : evE Γ (.ite c a b) δ π = (do
    let (x, π) ← evE Γ c δ π
    let k ← asBool x
    if k then evE Γ a δ π else evE Γ b δ π) := by simp only [evE]
@[simp] theorem ev_ix {a i : E} : evE Γ (.ix a i) δ π = (do let (x, π) ← evE Γ a δ π; let (y, π) ← evE Γ i δ π; let z ← ixD x y; pure (z, π)) := by simp only [evE]
@[simp] theorem ev_sl {a : E} {lo hi : Oe} : evE Γ (.sl a lo hi) δ π = (do
    let (x, π) ← evE Γ a δ π
    let (l, π) ← evO Γ lo δ π
    let (h, π) ← evO Γ hi δ π
    let z ← cutD x l h
    pure (z, π)) := by simp only [evE]
@[simp] theorem ev_len {a : E} : evE Γ (.len a) δ π = (do let (x, π) ← evE Γ a δ π; let xs ← items x; pure (.int xs.length, π)) := by simp only [evE]
@[simp] theorem ev_all {a : E} : evE Γ (.all a) δ π = (do let (x, π) ← evE Γ a δ π; let xs ← lstOf x; let bs ← allBool xs; pure (.bool (bs.all id), π)) := by simp only [evE]
@[simp] theorem ev_any {a : E} : evE Γ (.any a) δ π = (do let (x, π) ← evE Γ a δ π; let xs ← lstOf x; let bs ← allBool xs; pure (.bool (bs.any id), π)) := by simp only [evE]
@[simp] theorem ev_sum {a : E} : evE Γ (.sum a) δ π = (do let (x, π) ← evE Γ a δ π; let xs ← lstOf x; let ns ← allInt xs; pure (.int ns.sum, π)) := by simp only [evE]
@[simp] theorem ev_list {a : E} : evE Γ (.list a) δ π = (do let (x, π) ← evE Γ a δ π; let xs ← items x; pure (.list xs, π)) := by simp only [evE]
@[simp] theorem ev_tuple {a : E} : evE Γ (.tuple a) δ π = (do let (x, π) ← evE Γ a δ π; let xs ← items x; pure (.tuple xs, π)) := by simp only [evE]
@[simp] theorem ev_toInt {a : E} : evE Γ (.toInt a) δ π = (do
    let (x, π) ← evE Γ a δ π
    match x with
    | .int i => pure (.int i, π)
    | .bool b => pure (.int (if b then 1 else 0), π)
    | _ => none) := by simp only [evE] <;> rfl
@[simp] theorem ev_abs {a : E} : evE Γ (.abs a) δ π = (do let (x, π) ← evE Γ a δ π; let i ← asInt x; pure (.int (if i < 0 then -i else i), π)) := by simp only [evE]
@[simp] theorem ev_repr {a : E} : evE Γ (.repr a) δ π = (do let (x, π) ← evE Γ a δ π; if reprOk x then pure (.str x.shown, π) else none) := by simp only [evE]
@[simp] theorem ev_min2 {a b : E} : evE Γ (.min2 a b) δ π = (do let (x, π) ← evE Γ a δ π; let (y, π) ← evE Γ b δ π; let i ← asInt x; let j ← asInt y; pure (.int (if j < i then j else i), π)) := by simp only [evE]
@[simp] theorem ev_max2 {a b : E} : evE Γ (.max2 a b) δ π = (do let (x, π) ← evE Γ a δ π; let (y, π) ← evE Γ b δ π; let i ← asInt x; let j ← asInt y; pure (.int (if j > i then j else i), π)) := by simp only [evE]
@[simp] theorem ev_isi {k : Kd} {a : E} : evE Γ (.isi k a) δ π = (do let (x, π) ← evE Γ a δ π; pure (.bool (kdOf k x), π)) := by simp only [evE]
@[simp] theorem ev_sorted {t : Ty} {a : E} : evE Γ (.sorted t a) δ π = (do
    let (x, π) ← evE Γ a δ π
    let xs ← items x
    if xs.all (isT t) && xs.all eqOk && decide (xs.length ≤ maxSize) then pure (.list (sortD ltD xs), π) else none) := by simp only [evE]
@[simp] theorem ev_call {f : Str} {es : Es} : evE Γ (.call f es) δ π = (do
    let g ← Γ.fn f
    let (xs, π) ← evEs Γ es δ π
    let d ← g xs
    pure (d, π)) := by simp only [evE]
@[simp] theorem ev_callk {f : Str} {ks : List Str} {perm : List Nat} {ps es : Es} : evE Γ (.callk f ks perm ps es) δ π = (do
    let g ← Γ.fn f
    let (xs, π) ← evEs Γ ps δ π
    let (ys, π) ← evEs Γ es δ π
    if Γ.kw f ks perm && decide ((xs ++ ys).length = perm.length) && decide (ys.length = ks.length) then
      let d ← g (perm.map fun k => (xs ++ ys).getD k .none)
      pure (d, π)
    else none) := by simp only [evE]
@[simp] theorem ev_callp {f : Str} {p : Nat} {es : Es} : evE Γ (.callp f p es) δ π = (match δ[p]?, π with
    | some .pot, some _ => do
      let g ← Γ.pf f
      let (xs, π2) ← evEs Γ es δ π
      match π2 with
      | some xy => do let (d, xy') ← g xs xy; pure (d, some xy')
      | none => none
    | _, _ => none) := by simp only [evE] <;> rfl
@[simp] theorem ev_pot0 {p : Nat} : evE Γ (.pot0 p) δ π = (match δ[p]?, π with | some .pot, some xy => some (.int xy.1, π) | _, _ => none) := by simp only [evE] <;> rfl
@[simp] theorem ev_pot1 {p : Nat} : evE Γ (.pot1 p) δ π = (match δ[p]?, π with | some .pot, some xy => some (.int xy.2, π) | _, _ => none) := by simp only [evE] <;> rfl
@[simp] theorem es_nil : evEs Γ .nil δ π = some ([], π) := by simp only [evEs]
@[simp] theorem es_cons {e : E} {es : Es} : evEs Γ (.cons e es) δ π = (do let (x, π) ← evE Γ e δ π; let (xs, π) ← evEs Γ es δ π; pure (x :: xs, π)) := by simp only [evEs]
@[simp] theorem and_one {e : E} : evAnd Γ (.cons e .nil) δ π = evE Γ e δ π := by simp only [evAnd]
@[simp] theorem and_cons {e f : E} {es : Es} : evAnd Γ (.cons e (.cons f es)) δ π = (do
    let (x, π) ← evE Γ e δ π
    let b ← asBool x
    if b then evAnd Γ (.cons f es) δ π else pure (.bool false, π)) := by simp only [evAnd]
@[simp] theorem or_one {e : E} : evOr Γ (.cons e .nil) δ π = evE Γ e δ π := by simp only [evOr]
@[simp] theorem or_cons {e f : E} {es : Es} : evOr Γ (.cons e (.cons f es)) δ π = (do
    let (x, π) ← evE Γ e δ π
    let b ← asBool x
    if b then pure (.bool true, π) else evOr Γ (.cons f es) δ π) := by simp only [evOr]
@[simp] theorem o_no' : evO Γ .no δ π = some (none, π) := by simp only [evO]
@[simp] theorem o_yes' {e : E} : evO Γ (.yes e) δ π = (do let (x, π) ← evE Γ e δ π; let i ← asInt x; if i.natAbs < 2 ^ 62 then pure (some i, π) else none) := by simp only [evO]
@[simp] theorem c_no' : evC Γ .no δ π = some (true, π) := by simp only [evC]
@[simp] theorem c_yes' {e : E} : evC Γ (.yes e) δ π = (do let (x, π) ← evE Γ e δ π; let b ← asBool x; pure (b, π)) := by simp only [evC]
@[simp] theorem it_seq {a : E} : evI Γ (.seq a) δ π = (do let (x, π) ← evE Γ a δ π; let xs ← items x; pure (xs, π)) := by simp only [evI]
@[simp] theorem it_zip {a b : E} : evI Γ (.zip a b) δ π = (do
    let (x, π) ← evE Γ a δ π; let (y, π) ← evE Γ b δ π; let xs ← items x; let ys ← items y
    pure ((xs.zip ys).map fun p => .tuple [p.1, p.2], π)) := by simp only [evI]
@[simp] theorem it_rng {a : E} : evI Γ (.rng a) δ π = (do let (x, π) ← evE Γ a δ π; let i ← asInt x; if i.natAbs < 2 ^ 61 then pure (rngD 0 i, π) else none) := by simp only [evI]
/-! statements -/
@[simp] theorem x_nil : exSs Γ .nil n δ π = some (.nx δ π) := by simp only [exSs]
@[simp] theorem x_cons {s : S} {ss : Ss} : exSs Γ (.cons s ss) n δ π = (do
    match ← exS Γ s n δ π with
    | .nx δ1 π1 => exSs Γ ss n δ1 π1
    | .rt d fr π1 => pure (.rt d fr π1)) := by simp only [exSs] <;> rfl
@[simp] theorem x_asg {i : Nat} {e : E} : exS Γ (.asg i e) n δ π = (do
    let (d, π1) ← evE Γ e δ π
    if i < δ.length then pure (.nx ((demote δ (keeps Γ e)).set i (mkSl (fresh Γ e) d)) π1) else none) := by simp only [exS]
@[simp] theorem x_asgT {p : Pt} {e : E} : exS Γ (.asgT p e) n δ π = (do
    let (d, π1) ← evE Γ e δ π
    let δ1 ← asgP p d (demote δ (keeps Γ e))
    pure (.nx δ1 π1)) := by simp only [exS]
@[simp] theorem x_if {c : E} {a b : Ss} : exS Γ (.ifS c a b) n δ π = (do
    let (d, π1) ← evE Γ c δ π
    let k ← asBool d
    if k then exSs Γ a n δ π1 else exSs Γ b n δ π1) := by simp only [exS]
@[simp] theorem x_ret {e : E} : exS Γ (.ret e) n δ π = (do
    let (d, π1) ← evE Γ e δ π
    let fr := match isVar e with
      | some i => (match δ[i]? with | some (.own _) => true | _ => false)
      | none => fresh Γ e
    pure (.rt d fr π1)) := by simp only [exS] <;> rfl
@[simp] theorem x_exp {e : E} : exS Γ (.exp e) n δ π = (do
    let (_, π1) ← evE Γ e δ π
    pure (.nx δ π1)) := by simp only [exS]
@[simp] theorem x_raise : exS Γ .raise n δ π = none := by simp only [exS]
end
/-! comprehensions -/
theorem compL_pure {asg : D → Option Dl} {cond : Dl → Pot → Option (Bool × Pot)} {elt : Dl → Pot → Option (D × Pot)} {π : Pot} {α : Type} (en : α → D) (p : α → Bool) (f : α → D) : ∀ (xs : List α),
    (∀ a ∈ xs, ∃ δ, asg (en a) = some δ ∧ cond δ π = some (p a, π) ∧ (p a = true → elt δ π = some (f a, π))) → compL asg cond elt (xs.map en) π = some ((xs.filter p).map f, π)
  | [], _ => rfl
  | a :: xs, h => by
    obtain ⟨δ, h1, h2, h3⟩ := h a (List.mem_cons_self ..)
    have ih := compL_pure en p f xs fun b hb => h b (List.mem_cons_of_mem _ hb)
    rw [List.map_cons, compL, h1]
    simp only [Option.bind_eq_bind, Option.bind_some, h2]
    cases hp : p a with
    | false => simp [ih, hp]
    | true => simp [ih, hp, h3 hp]
theorem ev_comp {Γ : Tab} {δ : Dl} {π : Pot} {α : Type} {elt : E} {pt : Pt} {it : It} {own : List (Str × Nat)} {cond : Oe} (en : α → D) (p : α → Bool) (f : α → D) (xs : List α) (hi : evI Γ it δ π = some (xs.map en, π)) (hl : xs.length ≤ maxSize)
    (h : ∀ a ∈ xs, ∃ δ', asgP pt (en a) (wipeD δ (own.map (·.2))) = some δ' ∧ evC Γ cond δ' π = some (p a, π) ∧ (p a = true → evE Γ elt δ' π = some (f a, π))) :
    evE Γ (.comp elt pt it own cond) δ π = some (.list ((xs.filter p).map f), π) := by
  simp only [evE]
  rw [hi]
  simp only [Option.bind_eq_bind, Option.bind_some, List.length_map, if_pos hl]
  rw [compL_pure en p f xs h]
  rfl
theorem ev_compE {Γ : Tab} {δ : Dl} {π π1 π2 : Pot} {elt : E} {pt : Pt} {it : It} {own : List (Str × Nat)} {cond : Oe} {ds ys : List D} (hi : evI Γ it δ π = some (ds, π1)) (hl : ds.length ≤ maxSize)
    (h : compL (fun d => asgP pt d (wipeD δ (own.map (·.2)))) (fun δ' π' => evC Γ cond δ' π') (fun δ' π' => evE Γ elt δ' π') ds π1 = some (ys, π2)) : evE Γ (.comp elt pt it own cond) δ π = some (.list ys, π2) := by
  simp only [evE]
  rw [hi]
  simp only [Option.bind_eq_bind, Option.bind_some, if_pos hl]
  rw [h]
  rfl
section
open PyProof.Rows PySem.W
theorem ltD_trans {a b c : D} (h1 : ltD a b = true) (h2 : ltD b c = true) : ltD a c = true := (listOrd itemOrd).trans _ _ _ h1 h2
theorem ltD_irrefl (a : D) : ltD a a = false := (listOrd itemOrd).irrefl _
end
/-- each thing -/
theorem ev_comp' {Γ : Tab} {δ : Dl} {π : Pot} {α : Type} {elt : E} {pt : Pt} {it : It} {own : List (Str × Nat)} (en : α → D) (f : α → D) (xs : List α) (hi : evI Γ it δ π = some (xs.map en, π)) (hl : xs.length ≤ maxSize)
    (h : ∀ a ∈ xs, ∃ δ', asgP pt (en a) (wipeD δ (own.map (·.2))) = some δ' ∧ evE Γ elt δ' π = some (f a, π)) :
    evE Γ (.comp elt pt it own .no) δ π = some (.list (xs.map f), π) := by
  have := ev_comp (Γ := Γ) (δ := δ) (π := π) (elt := elt) (pt := pt) (it := it) (own := own) (cond := .no) en (fun _ => true) f xs hi hl fun a ha => by
    obtain ⟨δ', h1, h2⟩ := h a ha
    exact ⟨δ', h1, by simp, fun _ => h2⟩
  rwa [List.filter_eq_self.mpr (fun _ _ => rfl)] at this
/-- drawing: whatever is drawn, some of them -/
theorem compL_draw {asg : D → Option Dl} {cond : Dl → Pot → Option (Bool × Pot)} {elt : Dl → Pot → Option (D × Pot)} {α : Type} (en : α → D) (ok : Pot → Prop) (R : α → D → Prop) : ∀ (xs : List α) (π : Pot), ok π →
    (∀ a ∈ xs, ∀ π, ok π → ∃ δ b π1, asg (en a) = some δ ∧ cond δ π = some (b, π1) ∧ ok π1 ∧ (b = true → ∃ d π2, elt δ π1 = some (d, π2) ∧ ok π2 ∧ R a d)) →
    ∃ (ys : List (α × D)) (π' : Pot), compL asg cond elt (xs.map en) π = some (ys.map (·.2), π') ∧ ok π' ∧ (ys.map (·.1)).Sublist xs ∧ ∀ q ∈ ys, R q.1 q.2
  | [], π, hπ, _ => ⟨[], π, rfl, hπ, List.Sublist.slnil, fun q hq => by cases hq⟩
  | a :: xs, π, hπ, h => by
    obtain ⟨δ, b, π1, h1, h2, h3, h4⟩ := h a (List.mem_cons_self ..) π hπ
    rw [List.map_cons, compL, h1]
    simp only [Option.bind_eq_bind, Option.bind_some, h2]
    cases b with
    | false =>
      obtain ⟨ys, π', e1, e2, e3, e4⟩ := compL_draw en ok R xs π1 h3 fun c hc => h c (List.mem_cons_of_mem _ hc)
      exact ⟨ys, π', by simpa using e1, e2, e3.cons a, e4⟩
    | true =>
      obtain ⟨d, π2, g1, g2, g3⟩ := h4 rfl
      obtain ⟨ys, π', e1, e2, e3, e4⟩ := compL_draw en ok R xs π2 g2 fun c hc => h c (List.mem_cons_of_mem _ hc)
      refine ⟨(a, d) :: ys, π', by simp [g1, e1], e2, by simpa using e3, fun q hq => ?_⟩
      rcases List.mem_cons.mp hq with rfl | hq
      · exact g3
      · exact e4 q hq
theorem compL_drawAll {asg : D → Option Dl} {cond : Dl → Pot → Option (Bool × Pot)} {elt : Dl → Pot → Option (D × Pot)} {α : Type} (en : α → D) (ok : Pot → Prop) (R : D → Prop) : ∀ (xs : List α) (π : Pot), ok π →
    (∀ a ∈ xs, ∀ π, ok π → ∃ δ d π1, asg (en a) = some δ ∧ cond δ π = some (true, π) ∧ elt δ π = some (d, π1) ∧ ok π1 ∧ R d) →
    ∃ (ds : List D) (π' : Pot), compL asg cond elt (xs.map en) π = some (ds, π') ∧ ok π' ∧ ds.length = xs.length ∧ ∀ d ∈ ds, R d
  | [], π, hπ, _ => ⟨[], π, rfl, hπ, rfl, fun q hq => by cases hq⟩
  | a :: xs, π, hπ, h => by
    obtain ⟨δ, d, π1, h1, h2, h3, h4, h5⟩ := h a (List.mem_cons_self ..) π hπ
    obtain ⟨ds, π', e1, e2, e3, e4⟩ := compL_drawAll en ok R xs π1 h4 fun c hc => h c (List.mem_cons_of_mem _ hc)
    refine ⟨d :: ds, π', ?_, e2, by simp [e3], fun q hq => ?_⟩
    · rw [List.map_cons, compL, h1]
      simp [h2, h3, e1]
    · rcases List.mem_cons.mp hq with rfl | hq
      · exact h5
      · exact e4 q hq
@[simp] theorem allBool_map' {α : Type} (g : α → Bool) : ∀ l : List α, allBool (l.map fun a => PyData.bool (g a)) = some (l.map g)
  | [] => rfl
  | a :: l => by simp [allBool, asBool, allBool_map' g l]
@[simp] theorem allInt_map' {α : Type} (g : α → Int) : ∀ l : List α, allInt (l.map fun a => PyData.int (g a)) = some (l.map g)
  | [] => rfl
  | a :: l => by simp [allInt, asInt, allInt_map' g l]
theorem depthAll_le {n : Nat} : ∀ {xs : List D}, (∀ x ∈ xs, x.depth ≤ n) → PyData.depthAll xs ≤ n
  | [], _ => Nat.zero_le _
  | x :: xs, h => by
    have h1 := h x (List.mem_cons_self ..)
    have h2 := depthAll_le (xs := xs) fun y hy => h y (List.mem_cons_of_mem _ hy)
    simp only [PyData.depthAll]
    omega
theorem canLayAll_of : ∀ {xs : List D}, (∀ x ∈ xs, x.canLay0 = true) → PyData.canLayAll0 xs = true
  | [], _ => by simp [PyData.canLayAll0]
  | x :: xs, h => by
    simp only [PyData.canLayAll0, Bool.and_eq_true]
    exact ⟨h x (List.mem_cons_self ..), canLayAll_of fun y hy => h y (List.mem_cons_of_mem _ hy)⟩
/-- may be looked at, and is not deep -/
def flat2 (n : Nat) (d : D) : Bool := d.canLay0 && decide (d.depth ≤ n)
theorem flat2_tup {n : Nat} {xs : List D} (h : ∀ x ∈ xs, flat2 n x = true) : flat2 (n + 1) (.tuple xs) = true := by
  simp only [flat2, Bool.and_eq_true, decide_eq_true_eq] at h ⊢
  refine ⟨?_, ?_⟩
  · simp only [PyData.canLay0]; exact canLayAll_of fun x hx => (h x hx).1
  · have := depthAll_le fun x hx => (h x hx).2
    simp only [PyData.depth]; omega
theorem flat2_lst {n : Nat} {xs : List D} (h : ∀ x ∈ xs, flat2 n x = true) : flat2 (n + 1) (.list xs) = true := by
  simp only [flat2, Bool.and_eq_true, decide_eq_true_eq] at h ⊢
  refine ⟨?_, ?_⟩
  · simp only [PyData.canLay0]; exact canLayAll_of fun x hx => (h x hx).1
  · have := depthAll_le fun x hx => (h x hx).2
    simp only [PyData.depth]; omega
theorem flat2_int (n : Nat) (i : Int) : flat2 n (.int i) = true := by simp [flat2, PyData.canLay0, PyData.depth]
theorem eqOk_flat {n : Nat} {d : D} (h : flat2 n d = true) (hn : n ≤ 64) : eqOk d = true := by
  simp only [flat2, Bool.and_eq_true, decide_eq_true_eq] at h
  simp only [eqOk, SeqAt.shaped, Bool.and_eq_true, decide_eq_true_eq]
  exact ⟨h.1, by omega⟩
theorem cutL_1 (xs : List D) : cutL xs (some 1) none = xs.drop 1 := by
  unfold cutL
  rw [show HT.sIx xs.length 0 (some 1) = min 1 xs.length from HT.sIx_nat xs.length 0 1, HT.sIx_none]
  cases xs with
  | nil => rfl
  | cons x xs => simp
theorem x_for {Γ : Tab} {δ : Dl} {π : Pot} {n : Nat} {p : Pt} {it : It} {b : Ss} : exS Γ (.forS p it b) n δ π = (do
    let (ds, π1) ← evI Γ it δ π
    forL (asgP p) (fun δ π => exSs Γ b n δ π) ds (demote δ (keepsF Γ it)) π1) := by simp only [exS]
theorem forL_inv {asg : D → Dl → Option Dl} {b : Dl → Pot → Option Fl} {α β : Type} (en : α → D) (I : β → Dl → Prop) (step : β → α → β) (π : Pot) : ∀ (xs : List α) (s : β) (δ : Dl), I s δ →
    (∀ a ∈ xs, ∀ s δ, I s δ → ∃ δ1 δ2, asg (en a) δ = some δ1 ∧ b δ1 π = some (.nx δ2 π) ∧ I (step s a) δ2) → ∃ δ', forL asg b (xs.map en) δ π = some (.nx δ' π) ∧ I (xs.foldl step s) δ'
  | [], s, δ, h, _ => ⟨δ, rfl, h⟩
  | a :: xs, s, δ, h, hs => by
    obtain ⟨δ1, δ2, h1, h2, h3⟩ := hs a (List.mem_cons_self ..) s δ h
    obtain ⟨δ', h4, h5⟩ := forL_inv en I step π xs (step s a) δ2 h3 fun c hc => hs c (List.mem_cons_of_mem _ hc)
    refine ⟨δ', ?_, h5⟩
    rw [List.map_cons, forL, h1]
    simp [h2, h4]
theorem x_forE {Γ : Tab} {δ δ1 : Dl} {π π1 : Pot} {n : Nat} {p : Pt} {it : It} {b : Ss} {ds : List D} {fl : Fl} (hi : evI Γ it δ π = some (ds, π1)) (hd : demote δ (keepsF Γ it) = δ1) (h : forL (asgP p) (fun δ π => exSs Γ b n δ π) ds δ1 π1 = some fl) :
    exS Γ (.forS p it b) n δ π = some fl := by
  rw [x_for, hi]
  simp only [Option.bind_eq_bind, Option.bind_some]
  rw [hd]; exact h
end Z
/-! texts of data are short -/
namespace Z
open PySem L2
mutual
def rpB : D → Bool
  | .none | .bool _ => true
  | .int i => decide (i.natAbs < 10 ^ 24)
  | .str x => x.cps.toList.all fun c => decide (c < 16 ^ 8)
  | .list xs => rpAll xs
  | .tuple xs => rpAll xs
  | .dict _ => false
def rpAll : List D → Bool
  | [] => true
  | x :: xs => rpB x && rpAll xs
end
theorem rpAll_of : ∀ {xs : List D}, (∀ x ∈ xs, rpB x = true) → rpAll xs = true
  | [], _ => rfl
  | x :: xs, h => by
    simp only [rpAll, Bool.and_eq_true]
    exact ⟨h x (List.mem_cons_self ..), rpAll_of fun y hy => h y (List.mem_cons_of_mem _ hy)⟩
theorem int_short {i : Int} (h : i.natAbs < 10 ^ 24) : (PyData.shown (.int i)).length ≤ 25 := by
  have h1 := int_text_length_le10 (k := 24) (by decide) h
  show (Str.ofString (toString i)).length ≤ 25
  rw [ofString_length]
  exact h1
theorem int_show {i : Int} (h : i.natAbs < 10 ^ 24) : PyData.showable (.int i) = true := by
  simp only [PyData.showable, decide_eq_true_eq]
  by_cases z : i.natAbs = 0
  · rw [z]; decide
  · exact (Nat.log2_lt z).mpr (Nat.lt_of_lt_of_le h (by decide +kernel))
mutual
theorem rpB_all : ∀ (d : D), rpB d = true → d.showable = true ∧ d.leavesShort 25 = true ∧ d.hasDict = false
  | .none, _ => ⟨rfl, by simp [PyData.leavesShort], rfl⟩
  | .bool b, _ => ⟨rfl, by simp [PyData.leavesShort], rfl⟩
  | .int i, h => by
    have h' : i.natAbs < 10 ^ 24 := by simpa [rpB] using h
    exact ⟨int_show h', by simp only [PyData.leavesShort, decide_eq_true_eq]; exact int_short h', rfl⟩
  | .str x, h => ⟨rfl, by simpa [rpB, PyData.leavesShort] using h, rfl⟩
  | .list xs, h => by
    obtain ⟨h1, h2, h3⟩ := rpAll_all xs (by simpa [rpB] using h)
    exact ⟨by simpa [PyData.showable] using h1, by simpa [PyData.leavesShort] using h2, by simpa [PyData.hasDict] using h3⟩
  | .tuple xs, h => by
    obtain ⟨h1, h2, h3⟩ := rpAll_all xs (by simpa [rpB] using h)
    exact ⟨by simpa [PyData.showable] using h1, by simpa [PyData.leavesShort] using h2, by simpa [PyData.hasDict] using h3⟩
  | .dict _, h => by simp [rpB] at h
theorem rpAll_all : ∀ (ds : List D), rpAll ds = true → PyData.showableAll ds = true ∧ PyData.leavesShortAll 25 ds = true ∧ PyData.hasDictAll ds = false
  | [], _ => ⟨rfl, by simp [PyData.leavesShortAll], rfl⟩
  | d :: ds, h => by
    simp only [rpAll, Bool.and_eq_true] at h
    obtain ⟨h1, h2, h3⟩ := rpB_all d h.1
    obtain ⟨g1, g2, g3⟩ := rpAll_all ds h.2
    simp [PyData.showableAll, PyData.leavesShortAll, PyData.hasDictAll, h1, h2, h3, g1, g2, g3]
end
theorem reprOk_of {d : D} (h : rpB d = true) (hb : d.bulk ≤ 600000) (hd : d.depth ≤ 30) : reprOk d = true := by
  obtain ⟨h1, h2, h3⟩ := rpB_all d h
  have h4 := PyData.shown_le_bulk 25 (by decide) d h2
  have h5 : d.shown.length ≤ sizeLine := by rw [sizeLine_eq]; omega
  simp [reprOk, h1, h3, h5, hd]
theorem bulkAll_le {c : Nat} : ∀ {xs : List D}, (∀ x ∈ xs, x.bulk ≤ c) → PyData.bulkAll xs ≤ (c + 1) * xs.length
  | [], _ => Nat.zero_le _
  | x :: xs, h => by
    have h1 := h x (List.mem_cons_self ..)
    have h2 := bulkAll_le (xs := xs) fun y hy => h y (List.mem_cons_of_mem _ hy)
    simp only [PyData.bulkAll, List.length_cons, Nat.mul_add, Nat.mul_one]
    omega
/-- of n things at the most each, d deep, m in all -/
structure Rep (d : D) (n m : Nat) : Prop where
  rp : rpB d = true
  dp : d.depth ≤ n
  bk : d.bulk ≤ m
theorem Rep.ok {d : D} {n m : Nat} (h : Rep d n m) (hn : n ≤ 30) (hm : m ≤ 600000) : reprOk d = true := reprOk_of h.rp (Nat.le_trans h.bk hm) (Nat.le_trans h.dp hn)
theorem Rep.int {i : Int} (h : i.natAbs < 10 ^ 24) : Rep (.int i) 0 0 := ⟨by simpa [rpB] using h, Nat.le_refl _, Nat.le_refl _⟩
theorem Rep.lst {xs : List D} {n m k : Nat} (h : ∀ x ∈ xs, Rep x n m) (hk : xs.length ≤ k) : Rep (.list xs) (n + 1) ((m + 1) * k) :=
  ⟨by simp only [rpB]; exact rpAll_of fun x hx => (h x hx).rp, by have := depthAll_le fun x hx => (h x hx).dp; simp only [PyData.depth]; omega,
    by have := bulkAll_le fun x hx => (h x hx).bk; simp only [PyData.bulk]; exact Nat.le_trans this (Nat.mul_le_mul_left _ hk)⟩
theorem Rep.tup {xs : List D} {n m k : Nat} (h : ∀ x ∈ xs, Rep x n m) (hk : xs.length ≤ k) : Rep (.tuple xs) (n + 1) ((m + 1) * k) :=
  ⟨by simp only [rpB]; exact rpAll_of fun x hx => (h x hx).rp, by have := depthAll_le fun x hx => (h x hx).dp; simp only [PyData.depth]; omega,
    by have := bulkAll_le fun x hx => (h x hx).bk; simp only [PyData.bulk]; exact Nat.le_trans this (Nat.mul_le_mul_left _ hk)⟩
theorem Rep.up {d : D} {n m n' m' : Nat} (h : Rep d n m) (hn : n ≤ n') (hm : m ≤ m') : Rep d n' m' := ⟨h.rp, Nat.le_trans h.dp hn, Nat.le_trans h.bk hm⟩
end Z
namespace L91
open PySem L2 Z
def body : List Stmt := PySem.Challenge.pw_lotfamilies_k91_whole_sums_and_back.main.body
def topS (i : Nat) : Stmt := body.getD i (.Pass ⟨0, 0, 0, 0⟩)
def T0 : Tab := (Tab.addG (Tab.addG tab0 "MOST_THINGS" (.int 6)) "FAMILY" (.str "family"))
/-! _law_draw -/
def N_law_draw : List Str := ["pot", "many", "digit"]
def P_law_draw : List Str := ["pot", "many"]
def S_law_draw : Ss :=
  (.cons (.ifS (.cmp .gt (.pot0 0) (.int 0))
  (.cons (.potDiv 0 2 (.var 1))
  (.cons (.ret (.var 2))
  .nil))
  .nil)
  (.cons (.potSet 0 (.mod (.toInt (.add (.mul (.pot1 0) (.int 40014)) (.int 1307))) (.int 2147483587)))
  (.cons (.ret (.mod (.toInt (.fdiv (.mod (.toInt (.mul (.pot1 0) (.pot1 0))) (.int 2147483549)) (.int 17))) (.var 1)))
  .nil)))
theorem sc_law_draw : scopeOk N_law_draw P_law_draw (defScope (topS 38)) = true := by decide +kernel
theorem ch_law_draw : chkBody N_law_draw S_law_draw (defScope (topS 38)) (defBody (topS 38)) = true := by decide +kernel
theorem bi_law_draw : BindAll "_law_draw" (topS 38) P_law_draw := fun _ _ _ _ _ _ us hl => match us, hl with | [_, _], _ => rfl
def C_law_draw : Tab := T0
@[simp] theorem st_law_draw (a0 a1 : Sl) : startD N_law_draw [a0, a1] = [a0, a1, .no] := rfl
def G_law_draw : List D → Int × Int → Option (D × (Int × Int)) := runP C_law_draw N_law_draw S_law_draw false 3000 1
def T1 : Tab := T0.addP "_law_draw" G_law_draw false
/-! _law_pick -/
def N_law_pick : List Str := ["pot", "some"]
def P_law_pick : List Str := ["pot", "some"]
def S_law_pick : Ss :=
  (.cons (.ret (.ix (.var 1) (.callp "_law_draw" 0 (.cons (.len (.var 1)) .nil))))
  .nil)
theorem sc_law_pick : scopeOk N_law_pick P_law_pick (defScope (topS 39)) = true := by decide +kernel
theorem ch_law_pick : chkBody N_law_pick S_law_pick (defScope (topS 39)) (defBody (topS 39)) = true := by decide +kernel
theorem bi_law_pick : BindAll "_law_pick" (topS 39) P_law_pick := fun _ _ _ _ _ _ us hl => match us, hl with | [_, _], _ => rfl
def C_law_pick : Tab := T1
@[simp] theorem st_law_pick (a0 a1 : Sl) : startD N_law_pick [a0, a1] = [a0, a1] := rfl
@[simp] theorem q_law_pick_law_draw : C_law_pick.pf "_law_draw" = some G_law_draw := by kernel_rfl
@[simp] theorem r_law_pick_law_draw : C_law_pick.fresh "_law_draw" = false := by kernel_rfl
def G_law_pick : List D → Int × Int → Option (D × (Int × Int)) := runP C_law_pick N_law_pick S_law_pick false 3000 1
def T2 : Tab := T1.addP "_law_pick" G_law_pick false
/-! _law_lots -/
def N_law_lots : List Str := ["things", "found", "thing", "lot"]
def P_law_lots : List Str := ["things"]
def S_law_lots : Ss :=
  (.cons (.asg 1 (.lst (.cons (.tup .nil) .nil)))
  (.cons (.forS (.v 2) (.rng (.var 0))
  (.cons (.asg 1 (.add (.var 1) (.comp (.add (.var 3) (.tup (.cons (.var 2) .nil))) (.v 3) (.seq (.var 1)) [("lot", 3)] .no)))
  .nil))
  (.cons (.ret (.var 1))
  .nil)))
theorem sc_law_lots : scopeOk N_law_lots P_law_lots (defScope (topS 40)) = true := by decide +kernel
theorem ch_law_lots : chkBody N_law_lots S_law_lots (defScope (topS 40)) (defBody (topS 40)) = true := by decide +kernel
theorem bi_law_lots : BindAll "_law_lots" (topS 40) P_law_lots := fun _ _ _ _ _ _ us hl => match us, hl with | [_], _ => rfl
def C_law_lots : Tab := T2
@[simp] theorem st_law_lots (a0 : Sl) : startD N_law_lots [a0] = [a0, .no, .no, .no] := rfl
def G_law_lots : List D → Option D := runF C_law_lots N_law_lots S_law_lots true 3000 1
def T3 : Tab := T2.addF "_law_lots" G_law_lots true []
/-! _law_family -/
def N_law_family : List Str := ["pot", "most", "things", "share", "lot"]
def P_law_family : List Str := ["pot", "most"]
def S_law_family : Ss :=
  (.cons (.asgT (.t (.cons (.v 2) (.cons (.v 3) .nil))) (.tup (.cons (.add (.int 1) (.callp "_law_draw" 0 (.cons (.var 1) .nil))) (.cons (.callp "_law_pick" 0 (.cons (.lst (.cons (.int 1) (.cons (.int 2) (.cons (.int 3) (.cons (.int 4) (.cons (.int 6) .nil)))))) .nil)) .nil))))
  (.cons (.ret (.tup (.cons (.str "family") (.cons (.var 2) (.cons (.tuple (.sorted (.seq .int) (.comp (.var 4) (.v 4) (.seq (.call "_law_lots" (.cons (.var 2) .nil))) [("lot", 4)] (.yes (.cmp .lt (.callp "_law_draw" 0 (.cons (.int 7) .nil)) (.var 3)))))) .nil)))))
  .nil))
theorem sc_law_family : scopeOk N_law_family P_law_family (defScope (topS 41)) = true := by decide +kernel
theorem ch_law_family : chkBody N_law_family S_law_family (defScope (topS 41)) (defBody (topS 41)) = true := by decide +kernel
theorem bi_law_family : BindAll "_law_family" (topS 41) P_law_family := fun _ _ _ _ _ _ us hl => match us, hl with | [_, _], _ => rfl
def C_law_family : Tab := T3
@[simp] theorem st_law_family (a0 a1 : Sl) : startD N_law_family [a0, a1] = [a0, a1, .no, .no, .no] := rfl
@[simp] theorem q_law_family_law_draw : C_law_family.pf "_law_draw" = some G_law_draw := by kernel_rfl
@[simp] theorem r_law_family_law_draw : C_law_family.fresh "_law_draw" = false := by kernel_rfl
@[simp] theorem q_law_family_law_lots : C_law_family.fn "_law_lots" = some G_law_lots := by kernel_rfl
@[simp] theorem r_law_family_law_lots : C_law_family.fresh "_law_lots" = true := by kernel_rfl
@[simp] theorem q_law_family_law_pick : C_law_family.pf "_law_pick" = some G_law_pick := by kernel_rfl
@[simp] theorem r_law_family_law_pick : C_law_family.fresh "_law_pick" = false := by kernel_rfl
def G_law_family : List D → Int × Int → Option (D × (Int × Int)) := runP C_law_family N_law_family S_law_family true 3000 1
def T4 : Tab := T3.addP "_law_family" G_law_family true
/-! _law_numbers -/
def N_law_numbers : List Str := ["pot", "things", "most", "lot"]
def P_law_numbers : List Str := ["pot", "things"]
def S_law_numbers : Ss :=
  (.cons (.asg 2 (.callp "_law_pick" 0 (.cons (.lst (.cons (.int 2) (.cons (.int 3) (.cons (.int 9) (.cons (.pow 10 6) .nil))))) .nil)))
  (.cons (.ret (.comp (.sub (.callp "_law_draw" 0 (.cons (.add (.mul (.int 2) (.var 2)) (.int 1)) .nil)) (.var 2)) (.v 3) (.seq (.call "_law_lots" (.cons (.var 1) .nil))) [("lot", 3)] .no))
  .nil))
theorem sc_law_numbers : scopeOk N_law_numbers P_law_numbers (defScope (topS 45)) = true := by decide +kernel
theorem ch_law_numbers : chkBody N_law_numbers S_law_numbers (defScope (topS 45)) (defBody (topS 45)) = true := by decide +kernel
theorem bi_law_numbers : BindAll "_law_numbers" (topS 45) P_law_numbers := fun _ _ _ _ _ _ us hl => match us, hl with | [_, _], _ => rfl
def C_law_numbers : Tab := T4
@[simp] theorem st_law_numbers (a0 a1 : Sl) : startD N_law_numbers [a0, a1] = [a0, a1, .no, .no] := rfl
@[simp] theorem q_law_numbers_law_draw : C_law_numbers.pf "_law_draw" = some G_law_draw := by kernel_rfl
@[simp] theorem r_law_numbers_law_draw : C_law_numbers.fresh "_law_draw" = false := by kernel_rfl
@[simp] theorem q_law_numbers_law_lots : C_law_numbers.fn "_law_lots" = some G_law_lots := by kernel_rfl
@[simp] theorem r_law_numbers_law_lots : C_law_numbers.fresh "_law_lots" = true := by kernel_rfl
@[simp] theorem q_law_numbers_law_pick : C_law_numbers.pf "_law_pick" = some G_law_pick := by kernel_rfl
@[simp] theorem r_law_numbers_law_pick : C_law_numbers.fresh "_law_pick" = false := by kernel_rfl
def G_law_numbers : List D → Int × Int → Option (D × (Int × Int)) := runP C_law_numbers N_law_numbers S_law_numbers true 3000 1
def T5 : Tab := T4.addP "_law_numbers" G_law_numbers true
/-! is_integer -/
def N_is_integer : List Str := ["value"]
def P_is_integer : List Str := ["value"]
def S_is_integer : Ss :=
  (.cons (.ret (.all_ (.cons (.isi .int (.var 0)) (.cons (.not (.isi .bool (.var 0))) .nil))))
  .nil)
theorem sc_is_integer : scopeOk N_is_integer P_is_integer (defScope (topS 1)) = true := by decide +kernel
theorem ch_is_integer : chkBody N_is_integer S_is_integer (defScope (topS 1)) (defBody (topS 1)) = true := by decide +kernel
theorem bi_is_integer : BindAll "is_integer" (topS 1) P_is_integer := fun _ _ _ _ _ _ us hl => match us, hl with | [_], _ => rfl
def C_is_integer : Tab := T5
@[simp] theorem st_is_integer (a0 : Sl) : startD N_is_integer [a0] = [a0] := rfl
def G_is_integer : List D → Option D := runF C_is_integer N_is_integer S_is_integer true 3000 1
def T6 : Tab := T5.addF "is_integer" G_is_integer true []
/-! is_within -/
def N_is_within : List Str := ["value", "least", "most"]
def P_is_within : List Str := ["value", "least", "most"]
def S_is_within : Ss :=
  (.cons (.ret (.all_ (.cons (.call "is_integer" (.cons (.var 0) .nil)) (.cons (.cmp2 .le .le (.var 1) (.var 0) (.var 2)) .nil))))
  .nil)
theorem sc_is_within : scopeOk N_is_within P_is_within (defScope (topS 2)) = true := by decide +kernel
theorem ch_is_within : chkBody N_is_within S_is_within (defScope (topS 2)) (defBody (topS 2)) = true := by decide +kernel
theorem bi_is_within : BindAll "is_within" (topS 2) P_is_within := fun _ _ _ _ _ _ us hl => match us, hl with | [_, _, _], _ => rfl
def C_is_within : Tab := T6
@[simp] theorem st_is_within (a0 a1 a2 : Sl) : startD N_is_within [a0, a1, a2] = [a0, a1, a2] := rfl
@[simp] theorem q_is_within_is_integer : C_is_within.fn "is_integer" = some G_is_integer := by kernel_rfl
@[simp] theorem r_is_within_is_integer : C_is_within.fresh "is_integer" = true := by kernel_rfl
def G_is_within : List D → Option D := runF C_is_within N_is_within S_is_within true 3000 3
def T7 : Tab := T6.addF "is_within" G_is_within true []
/-! want_things -/
def N_want_things : List Str := ["things"]
def P_want_things : List Str := ["things"]
def S_want_things : Ss :=
  (.cons (.ifS (.not (.call "is_within" (.cons (.var 0) (.cons (.int 1) (.cons (.glob "MOST_THINGS") .nil)))))
  (.cons .raise
  .nil)
  .nil)
  .nil)
theorem sc_want_things : scopeOk N_want_things P_want_things (defScope (topS 17)) = true := by decide +kernel
theorem ch_want_things : chkBody N_want_things S_want_things (defScope (topS 17)) (defBody (topS 17)) = true := by decide +kernel
theorem bi_want_things : BindAll "want_things" (topS 17) P_want_things := fun _ _ _ _ _ _ us hl => match us, hl with | [_], _ => rfl
def C_want_things : Tab := T7
@[simp] theorem st_want_things (a0 : Sl) : startD N_want_things [a0] = [a0] := rfl
@[simp] theorem q_want_things_is_within : C_want_things.fn "is_within" = some G_is_within := by kernel_rfl
@[simp] theorem r_want_things_is_within : C_want_things.fresh "is_within" = true := by kernel_rfl
@[simp] theorem q_want_things_MOST_THINGS : C_want_things.glb "MOST_THINGS" = some (.int 6) := by kernel_rfl
def G_want_things : List D → Option D := runF C_want_things N_want_things S_want_things true 3000 1
def T8 : Tab := T7.addF "want_things" G_want_things true []
/-! is_list -/
def N_is_list : List Str := ["value"]
def P_is_list : List Str := ["value"]
def S_is_list : Ss :=
  (.cons (.ret (.isi .seq (.var 0)))
  .nil)
theorem sc_is_list : scopeOk N_is_list P_is_list (defScope (topS 3)) = true := by decide +kernel
theorem ch_is_list : chkBody N_is_list S_is_list (defScope (topS 3)) (defBody (topS 3)) = true := by decide +kernel
theorem bi_is_list : BindAll "is_list" (topS 3) P_is_list := fun _ _ _ _ _ _ us hl => match us, hl with | [_], _ => rfl
def C_is_list : Tab := T8
@[simp] theorem st_is_list (a0 : Sl) : startD N_is_list [a0] = [a0] := rfl
def G_is_list : List D → Option D := runF C_is_list N_is_list S_is_list true 3000 1
def T9 : Tab := T8.addF "is_list" G_is_list true []
/-! power_of -/
def N_power_of : List Str := ["thing", "found", "turn"]
def P_power_of : List Str := ["thing"]
def S_power_of : Ss :=
  (.cons (.asg 1 (.int 1))
  (.cons (.forS (.v 2) (.rng (.var 0))
  (.cons (.asg 1 (.mul (.int 2) (.var 1)))
  .nil))
  (.cons (.ret (.var 1))
  .nil)))
theorem sc_power_of : scopeOk N_power_of P_power_of (defScope (topS 19)) = true := by decide +kernel
theorem ch_power_of : chkBody N_power_of S_power_of (defScope (topS 19)) (defBody (topS 19)) = true := by decide +kernel
theorem bi_power_of : BindAll "power_of" (topS 19) P_power_of := fun _ _ _ _ _ _ us hl => match us, hl with | [_], _ => rfl
def C_power_of : Tab := T9
@[simp] theorem st_power_of (a0 : Sl) : startD N_power_of [a0] = [a0, .no, .no] := rfl
def G_power_of : List D → Option D := runF C_power_of N_power_of S_power_of true 3000 1
def T10 : Tab := T9.addF "power_of" G_power_of true []
/-! are_numbers_for -/
def N_are_numbers_for : List Str := ["things", "value", "one"]
def P_are_numbers_for : List Str := ["things", "value"]
def S_are_numbers_for : Ss :=
  (.cons (.ret (.all_ (.cons (.call "is_list" (.cons (.var 1) .nil)) (.cons (.cmp .eq (.len (.var 1)) (.call "power_of" (.cons (.var 0) .nil))) (.cons (.all (.comp (.call "is_integer" (.cons (.var 2) .nil)) (.v 2) (.seq (.var 1)) [("one", 2)] .no)) .nil)))))
  .nil)
theorem sc_are_numbers_for : scopeOk N_are_numbers_for P_are_numbers_for (defScope (topS 21)) = true := by decide +kernel
theorem ch_are_numbers_for : chkBody N_are_numbers_for S_are_numbers_for (defScope (topS 21)) (defBody (topS 21)) = true := by decide +kernel
theorem bi_are_numbers_for : BindAll "are_numbers_for" (topS 21) P_are_numbers_for := fun _ _ _ _ _ _ us hl => match us, hl with | [_, _], _ => rfl
def C_are_numbers_for : Tab := T10
@[simp] theorem st_are_numbers_for (a0 a1 : Sl) : startD N_are_numbers_for [a0, a1] = [a0, a1, .no] := rfl
@[simp] theorem q_are_numbers_for_is_integer : C_are_numbers_for.fn "is_integer" = some G_is_integer := by kernel_rfl
@[simp] theorem r_are_numbers_for_is_integer : C_are_numbers_for.fresh "is_integer" = true := by kernel_rfl
@[simp] theorem q_are_numbers_for_is_list : C_are_numbers_for.fn "is_list" = some G_is_list := by kernel_rfl
@[simp] theorem r_are_numbers_for_is_list : C_are_numbers_for.fresh "is_list" = true := by kernel_rfl
@[simp] theorem q_are_numbers_for_power_of : C_are_numbers_for.fn "power_of" = some G_power_of := by kernel_rfl
@[simp] theorem r_are_numbers_for_power_of : C_are_numbers_for.fresh "power_of" = true := by kernel_rfl
def G_are_numbers_for : List D → Option D := runF C_are_numbers_for N_are_numbers_for S_are_numbers_for true 3000 2
def T11 : Tab := T10.addF "are_numbers_for" G_are_numbers_for true []
/-! want_numbers -/
def N_want_numbers : List Str := ["things", "numbers"]
def P_want_numbers : List Str := ["things", "numbers"]
def S_want_numbers : Ss :=
  (.cons (.ifS (.not (.call "are_numbers_for" (.cons (.var 0) (.cons (.var 1) .nil))))
  (.cons .raise
  .nil)
  .nil)
  .nil)
theorem sc_want_numbers : scopeOk N_want_numbers P_want_numbers (defScope (topS 22)) = true := by decide +kernel
theorem ch_want_numbers : chkBody N_want_numbers S_want_numbers (defScope (topS 22)) (defBody (topS 22)) = true := by decide +kernel
theorem bi_want_numbers : BindAll "want_numbers" (topS 22) P_want_numbers := fun _ _ _ _ _ _ us hl => match us, hl with | [_, _], _ => rfl
def C_want_numbers : Tab := T11
@[simp] theorem st_want_numbers (a0 a1 : Sl) : startD N_want_numbers [a0, a1] = [a0, a1] := rfl
@[simp] theorem q_want_numbers_are_numbers_for : C_want_numbers.fn "are_numbers_for" = some G_are_numbers_for := by kernel_rfl
@[simp] theorem r_want_numbers_are_numbers_for : C_want_numbers.fresh "are_numbers_for" = true := by kernel_rfl
def G_want_numbers : List D → Option D := runF C_want_numbers N_want_numbers S_want_numbers true 3000 2
def T12 : Tab := T11.addF "want_numbers" G_want_numbers true []
/-! want_asked -/
def N_want_asked : List Str := ["things", "numbers"]
def P_want_asked : List Str := ["things", "numbers"]
def S_want_asked : Ss :=
  (.cons (.exp (.call "want_things" (.cons (.var 0) .nil)))
  (.cons (.exp (.call "want_numbers" (.cons (.var 0) (.cons (.var 1) .nil))))
  .nil))
theorem sc_want_asked : scopeOk N_want_asked P_want_asked (defScope (topS 23)) = true := by decide +kernel
theorem ch_want_asked : chkBody N_want_asked S_want_asked (defScope (topS 23)) (defBody (topS 23)) = true := by decide +kernel
theorem bi_want_asked : BindAll "want_asked" (topS 23) P_want_asked := fun _ _ _ _ _ _ us hl => match us, hl with | [_, _], _ => rfl
def C_want_asked : Tab := T12
@[simp] theorem st_want_asked (a0 a1 : Sl) : startD N_want_asked [a0, a1] = [a0, a1] := rfl
@[simp] theorem q_want_asked_want_numbers : C_want_asked.fn "want_numbers" = some G_want_numbers := by kernel_rfl
@[simp] theorem r_want_asked_want_numbers : C_want_asked.fresh "want_numbers" = true := by kernel_rfl
@[simp] theorem q_want_asked_want_things : C_want_asked.fn "want_things" = some G_want_things := by kernel_rfl
@[simp] theorem r_want_asked_want_things : C_want_asked.fresh "want_things" = true := by kernel_rfl
def G_want_asked : List D → Option D := runF C_want_asked N_want_asked S_want_asked true 3000 2
def T13 : Tab := T12.addF "want_asked" G_want_asked true []
/-! has_bit -/
def N_has_bit : List Str := ["at", "thing"]
def P_has_bit : List Str := ["at", "thing"]
def S_has_bit : Ss :=
  (.cons (.ret (.cmp .eq (.mod (.fdiv (.var 0) (.call "power_of" (.cons (.var 1) .nil))) (.int 2)) (.int 1)))
  .nil)
theorem sc_has_bit : scopeOk N_has_bit P_has_bit (defScope (topS 24)) = true := by decide +kernel
theorem ch_has_bit : chkBody N_has_bit S_has_bit (defScope (topS 24)) (defBody (topS 24)) = true := by decide +kernel
theorem bi_has_bit : BindAll "has_bit" (topS 24) P_has_bit := fun _ _ _ _ _ _ us hl => match us, hl with | [_, _], _ => rfl
def C_has_bit : Tab := T13
@[simp] theorem st_has_bit (a0 a1 : Sl) : startD N_has_bit [a0, a1] = [a0, a1] := rfl
@[simp] theorem q_has_bit_power_of : C_has_bit.fn "power_of" = some G_power_of := by kernel_rfl
@[simp] theorem r_has_bit_power_of : C_has_bit.fresh "power_of" = true := by kernel_rfl
def G_has_bit : List D → Option D := runF C_has_bit N_has_bit S_has_bit true 3000 2
def T14 : Tab := T13.addF "has_bit" G_has_bit true []
/-! passed -/
def N_passed : List Str := ["things", "numbers", "is_down", "times", "found", "thing", "step", "at", "near", "far"]
def P_passed : List Str := ["things", "numbers", "is_down", "times"]
def S_passed : Ss :=
  (.cons (.asg 4 (.list (.var 1)))
  (.cons (.forS (.v 5) (.rng (.var 0))
  (.cons (.asg 6 (.call "power_of" (.cons (.var 5) .nil)))
  (.cons (.forS (.v 7) (.rng (.len (.var 4)))
  (.cons (.ifS (.call "has_bit" (.cons (.var 7) (.cons (.var 5) .nil)))
  (.cons (.asgT (.t (.cons (.v 8) (.cons (.v 9) .nil))) (.ite (.var 2) (.tup (.cons (.var 7) (.cons (.sub (.var 7) (.var 6)) .nil))) (.tup (.cons (.sub (.var 7) (.var 6)) (.cons (.var 7) .nil)))))
  (.cons (.setI 4 (.var 8) (.add (.ix (.var 4) (.var 8)) (.mul (.var 3) (.ix (.var 4) (.var 9)))))
  .nil))
  .nil)
  .nil))
  .nil)))
  (.cons (.ret (.var 4))
  .nil)))
theorem sc_passed : scopeOk N_passed P_passed (defScope (topS 26)) = true := by decide +kernel
theorem ch_passed : chkBody N_passed S_passed (defScope (topS 26)) (defBody (topS 26)) = true := by decide +kernel
theorem bi_passed : BindAll "passed" (topS 26) P_passed := fun _ _ _ _ _ _ us hl => match us, hl with | [_, _, _, _], _ => rfl
def C_passed : Tab := T14
@[simp] theorem st_passed (a0 a1 a2 a3 : Sl) : startD N_passed [a0, a1, a2, a3] = [a0, a1, a2, a3, .no, .no, .no, .no, .no, .no] := rfl
@[simp] theorem q_passed_has_bit : C_passed.fn "has_bit" = some G_has_bit := by kernel_rfl
@[simp] theorem r_passed_has_bit : C_passed.fresh "has_bit" = true := by kernel_rfl
@[simp] theorem q_passed_power_of : C_passed.fn "power_of" = some G_power_of := by kernel_rfl
@[simp] theorem r_passed_power_of : C_passed.fresh "power_of" = true := by kernel_rfl
def G_passed : List D → Option D := runF C_passed N_passed S_passed true 3000 4
def T15 : Tab := T14.addF "passed" G_passed true []
/-! down -/
def N_down : List Str := ["things", "numbers"]
def P_down : List Str := ["things", "numbers"]
def S_down : Ss :=
  (.cons (.ret (.call "passed" (.cons (.var 0) (.cons (.var 1) (.cons (.bl true) (.cons (.int 1) .nil))))))
  .nil)
theorem sc_down : scopeOk N_down P_down (defScope (topS 27)) = true := by decide +kernel
theorem ch_down : chkBody N_down S_down (defScope (topS 27)) (defBody (topS 27)) = true := by decide +kernel
theorem bi_down : BindAll "down" (topS 27) P_down := fun _ _ _ _ _ _ us hl => match us, hl with | [_, _], _ => rfl
def C_down : Tab := T15
@[simp] theorem st_down (a0 a1 : Sl) : startD N_down [a0, a1] = [a0, a1] := rfl
@[simp] theorem q_down_passed : C_down.fn "passed" = some G_passed := by kernel_rfl
@[simp] theorem r_down_passed : C_down.fresh "passed" = true := by kernel_rfl
def G_down : List D → Option D := runF C_down N_down S_down true 3000 2
def T16 : Tab := T15.addF "down" G_down true []
/-! sums_down -/
def N_sums_down : List Str := ["things", "numbers"]
def P_sums_down : List Str := ["things", "numbers"]
def S_sums_down : Ss :=
  (.cons (.exp (.call "want_asked" (.cons (.var 0) (.cons (.var 1) .nil))))
  (.cons (.ret (.call "down" (.cons (.var 0) (.cons (.var 1) .nil))))
  .nil))
theorem sc_sums_down : scopeOk N_sums_down P_sums_down (defScope (topS 32)) = true := by decide +kernel
theorem ch_sums_down : chkBody N_sums_down S_sums_down (defScope (topS 32)) (defBody (topS 32)) = true := by decide +kernel
theorem bi_sums_down : BindAll "sums_down" (topS 32) P_sums_down := fun _ _ _ _ _ _ us hl => match us, hl with | [_, _], _ => rfl
theorem bk_sums_down_0 : BindKw "sums_down" (topS 32) P_sums_down ["numbers", "things"] [1, 0] := fun _ _ _ _ _ _ us ws h1 h2 => match us, ws, h1, h2 with | [], [_, _], _, _ => rfl
def C_sums_down : Tab := T16
@[simp] theorem st_sums_down (a0 a1 : Sl) : startD N_sums_down [a0, a1] = [a0, a1] := rfl
@[simp] theorem q_sums_down_down : C_sums_down.fn "down" = some G_down := by kernel_rfl
@[simp] theorem r_sums_down_down : C_sums_down.fresh "down" = true := by kernel_rfl
@[simp] theorem q_sums_down_want_asked : C_sums_down.fn "want_asked" = some G_want_asked := by kernel_rfl
@[simp] theorem r_sums_down_want_asked : C_sums_down.fresh "want_asked" = true := by kernel_rfl
def G_sums_down : List D → Option D := runF C_sums_down N_sums_down S_sums_down true 3000 2
def T17 : Tab := T16.addF "sums_down" G_sums_down true [(["numbers", "things"], [1, 0])]
/-! up -/
def N_up : List Str := ["things", "numbers"]
def P_up : List Str := ["things", "numbers"]
def S_up : Ss :=
  (.cons (.ret (.call "passed" (.cons (.var 0) (.cons (.var 1) (.cons (.bl false) (.cons (.int 1) .nil))))))
  .nil)
theorem sc_up : scopeOk N_up P_up (defScope (topS 29)) = true := by decide +kernel
theorem ch_up : chkBody N_up S_up (defScope (topS 29)) (defBody (topS 29)) = true := by decide +kernel
theorem bi_up : BindAll "up" (topS 29) P_up := fun _ _ _ _ _ _ us hl => match us, hl with | [_, _], _ => rfl
def C_up : Tab := T17
@[simp] theorem st_up (a0 a1 : Sl) : startD N_up [a0, a1] = [a0, a1] := rfl
@[simp] theorem q_up_passed : C_up.fn "passed" = some G_passed := by kernel_rfl
@[simp] theorem r_up_passed : C_up.fresh "passed" = true := by kernel_rfl
def G_up : List D → Option D := runF C_up N_up S_up true 3000 2
def T18 : Tab := T17.addF "up" G_up true []
/-! sums_up -/
def N_sums_up : List Str := ["things", "numbers"]
def P_sums_up : List Str := ["things", "numbers"]
def S_sums_up : Ss :=
  (.cons (.exp (.call "want_asked" (.cons (.var 0) (.cons (.var 1) .nil))))
  (.cons (.ret (.call "up" (.cons (.var 0) (.cons (.var 1) .nil))))
  .nil))
theorem sc_sums_up : scopeOk N_sums_up P_sums_up (defScope (topS 33)) = true := by decide +kernel
theorem ch_sums_up : chkBody N_sums_up S_sums_up (defScope (topS 33)) (defBody (topS 33)) = true := by decide +kernel
theorem bi_sums_up : BindAll "sums_up" (topS 33) P_sums_up := fun _ _ _ _ _ _ us hl => match us, hl with | [_, _], _ => rfl
theorem bk_sums_up_0 : BindKw "sums_up" (topS 33) P_sums_up ["numbers", "things"] [1, 0] := fun _ _ _ _ _ _ us ws h1 h2 => match us, ws, h1, h2 with | [], [_, _], _, _ => rfl
def C_sums_up : Tab := T18
@[simp] theorem st_sums_up (a0 a1 : Sl) : startD N_sums_up [a0, a1] = [a0, a1] := rfl
@[simp] theorem q_sums_up_up : C_sums_up.fn "up" = some G_up := by kernel_rfl
@[simp] theorem r_sums_up_up : C_sums_up.fresh "up" = true := by kernel_rfl
@[simp] theorem q_sums_up_want_asked : C_sums_up.fn "want_asked" = some G_want_asked := by kernel_rfl
@[simp] theorem r_sums_up_want_asked : C_sums_up.fresh "want_asked" = true := by kernel_rfl
def G_sums_up : List D → Option D := runF C_sums_up N_sums_up S_sums_up true 3000 2
def T19 : Tab := T18.addF "sums_up" G_sums_up true [(["numbers", "things"], [1, 0])]
/-! down_less -/
def N_down_less : List Str := ["things", "numbers"]
def P_down_less : List Str := ["things", "numbers"]
def S_down_less : Ss :=
  (.cons (.ret (.call "passed" (.cons (.var 0) (.cons (.var 1) (.cons (.bl true) (.cons (.neg (.int 1)) .nil))))))
  .nil)
theorem sc_down_less : scopeOk N_down_less P_down_less (defScope (topS 28)) = true := by decide +kernel
theorem ch_down_less : chkBody N_down_less S_down_less (defScope (topS 28)) (defBody (topS 28)) = true := by decide +kernel
theorem bi_down_less : BindAll "down_less" (topS 28) P_down_less := fun _ _ _ _ _ _ us hl => match us, hl with | [_, _], _ => rfl
def C_down_less : Tab := T19
@[simp] theorem st_down_less (a0 a1 : Sl) : startD N_down_less [a0, a1] = [a0, a1] := rfl
@[simp] theorem q_down_less_passed : C_down_less.fn "passed" = some G_passed := by kernel_rfl
@[simp] theorem r_down_less_passed : C_down_less.fresh "passed" = true := by kernel_rfl
def G_down_less : List D → Option D := runF C_down_less N_down_less S_down_less true 3000 2
def T20 : Tab := T19.addF "down_less" G_down_less true []
/-! less_down -/
def N_less_down : List Str := ["things", "numbers"]
def P_less_down : List Str := ["things", "numbers"]
def S_less_down : Ss :=
  (.cons (.exp (.call "want_asked" (.cons (.var 0) (.cons (.var 1) .nil))))
  (.cons (.ret (.call "down_less" (.cons (.var 0) (.cons (.var 1) .nil))))
  .nil))
theorem sc_less_down : scopeOk N_less_down P_less_down (defScope (topS 34)) = true := by decide +kernel
theorem ch_less_down : chkBody N_less_down S_less_down (defScope (topS 34)) (defBody (topS 34)) = true := by decide +kernel
theorem bi_less_down : BindAll "less_down" (topS 34) P_less_down := fun _ _ _ _ _ _ us hl => match us, hl with | [_, _], _ => rfl
theorem bk_less_down_0 : BindKw "less_down" (topS 34) P_less_down ["numbers", "things"] [1, 0] := fun _ _ _ _ _ _ us ws h1 h2 => match us, ws, h1, h2 with | [], [_, _], _, _ => rfl
def C_less_down : Tab := T20
@[simp] theorem st_less_down (a0 a1 : Sl) : startD N_less_down [a0, a1] = [a0, a1] := rfl
@[simp] theorem q_less_down_down_less : C_less_down.fn "down_less" = some G_down_less := by kernel_rfl
@[simp] theorem r_less_down_down_less : C_less_down.fresh "down_less" = true := by kernel_rfl
@[simp] theorem q_less_down_want_asked : C_less_down.fn "want_asked" = some G_want_asked := by kernel_rfl
@[simp] theorem r_less_down_want_asked : C_less_down.fresh "want_asked" = true := by kernel_rfl
def G_less_down : List D → Option D := runF C_less_down N_less_down S_less_down true 3000 2
def T21 : Tab := T20.addF "less_down" G_less_down true [(["numbers", "things"], [1, 0])]
/-! up_less -/
def N_up_less : List Str := ["things", "numbers"]
def P_up_less : List Str := ["things", "numbers"]
def S_up_less : Ss :=
  (.cons (.ret (.call "passed" (.cons (.var 0) (.cons (.var 1) (.cons (.bl false) (.cons (.neg (.int 1)) .nil))))))
  .nil)
theorem sc_up_less : scopeOk N_up_less P_up_less (defScope (topS 30)) = true := by decide +kernel
theorem ch_up_less : chkBody N_up_less S_up_less (defScope (topS 30)) (defBody (topS 30)) = true := by decide +kernel
theorem bi_up_less : BindAll "up_less" (topS 30) P_up_less := fun _ _ _ _ _ _ us hl => match us, hl with | [_, _], _ => rfl
def C_up_less : Tab := T21
@[simp] theorem st_up_less (a0 a1 : Sl) : startD N_up_less [a0, a1] = [a0, a1] := rfl
@[simp] theorem q_up_less_passed : C_up_less.fn "passed" = some G_passed := by kernel_rfl
@[simp] theorem r_up_less_passed : C_up_less.fresh "passed" = true := by kernel_rfl
def G_up_less : List D → Option D := runF C_up_less N_up_less S_up_less true 3000 2
def T22 : Tab := T21.addF "up_less" G_up_less true []
/-! less_up -/
def N_less_up : List Str := ["things", "numbers"]
def P_less_up : List Str := ["things", "numbers"]
def S_less_up : Ss :=
  (.cons (.exp (.call "want_asked" (.cons (.var 0) (.cons (.var 1) .nil))))
  (.cons (.ret (.call "up_less" (.cons (.var 0) (.cons (.var 1) .nil))))
  .nil))
theorem sc_less_up : scopeOk N_less_up P_less_up (defScope (topS 35)) = true := by decide +kernel
theorem ch_less_up : chkBody N_less_up S_less_up (defScope (topS 35)) (defBody (topS 35)) = true := by decide +kernel
theorem bi_less_up : BindAll "less_up" (topS 35) P_less_up := fun _ _ _ _ _ _ us hl => match us, hl with | [_, _], _ => rfl
theorem bk_less_up_0 : BindKw "less_up" (topS 35) P_less_up ["numbers", "things"] [1, 0] := fun _ _ _ _ _ _ us ws h1 h2 => match us, ws, h1, h2 with | [], [_, _], _, _ => rfl
def C_less_up : Tab := T22
@[simp] theorem st_less_up (a0 a1 : Sl) : startD N_less_up [a0, a1] = [a0, a1] := rfl
@[simp] theorem q_less_up_up_less : C_less_up.fn "up_less" = some G_up_less := by kernel_rfl
@[simp] theorem r_less_up_up_less : C_less_up.fresh "up_less" = true := by kernel_rfl
@[simp] theorem q_less_up_want_asked : C_less_up.fn "want_asked" = some G_want_asked := by kernel_rfl
@[simp] theorem r_less_up_want_asked : C_less_up.fresh "want_asked" = true := by kernel_rfl
def G_less_up : List D → Option D := runF C_less_up N_less_up S_less_up true 3000 2
def T23 : Tab := T22.addF "less_up" G_less_up true [(["numbers", "things"], [1, 0])]
/-! _law_is_in -/
def N_law_is_in : List Str := ["lot", "other", "thing"]
def P_law_is_in : List Str := ["lot", "other"]
def S_law_is_in : Ss :=
  (.cons (.ret (.all (.comp (.cmp .isIn (.var 2) (.var 1)) (.v 2) (.seq (.var 0)) [("thing", 2)] .no)))
  .nil)
theorem sc_law_is_in : scopeOk N_law_is_in P_law_is_in (defScope (topS 42)) = true := by decide +kernel
theorem ch_law_is_in : chkBody N_law_is_in S_law_is_in (defScope (topS 42)) (defBody (topS 42)) = true := by decide +kernel
theorem bi_law_is_in : BindAll "_law_is_in" (topS 42) P_law_is_in := fun _ _ _ _ _ _ us hl => match us, hl with | [_, _], _ => rfl
def C_law_is_in : Tab := T23
@[simp] theorem st_law_is_in (a0 a1 : Sl) : startD N_law_is_in [a0, a1] = [a0, a1, .no] := rfl
def G_law_is_in : List D → Option D := runF C_law_is_in N_law_is_in S_law_is_in true 3000 2
def T24 : Tab := T23.addF "_law_is_in" G_law_is_in true []
/-! _law_sum -/
def N_law_sum : List Str := ["numbers", "lots", "own", "is_down", "is_signed", "found", "lot", "one", "is_odd"]
def P_law_sum : List Str := ["numbers", "lots", "own", "is_down", "is_signed"]
def S_law_sum : Ss :=
  (.cons (.asg 5 (.int 0))
  (.cons (.forS (.t (.cons (.v 6) (.cons (.v 7) .nil))) (.zip (.var 1) (.var 0))
  (.cons (.ifS (.ite (.var 3) (.call "_law_is_in" (.cons (.var 6) (.cons (.var 2) .nil))) (.call "_law_is_in" (.cons (.var 2) (.cons (.var 6) .nil))))
  (.cons (.asg 8 (.cmp .eq (.toInt (.mod (.add (.len (.var 6)) (.len (.var 2))) (.int 2))) (.int 1)))
  (.cons (.asg 5 (.add (.var 5) (.ite (.all_ (.cons (.var 8) (.cons (.var 4) .nil))) (.sub (.int 0) (.var 7)) (.var 7))))
  .nil))
  .nil)
  .nil))
  (.cons (.ret (.var 5))
  .nil)))
theorem sc_law_sum : scopeOk N_law_sum P_law_sum (defScope (topS 46)) = true := by decide +kernel
theorem ch_law_sum : chkBody N_law_sum S_law_sum (defScope (topS 46)) (defBody (topS 46)) = true := by decide +kernel
theorem bi_law_sum : BindAll "_law_sum" (topS 46) P_law_sum := fun _ _ _ _ _ _ us hl => match us, hl with | [_, _, _, _, _], _ => rfl
def C_law_sum : Tab := T24
@[simp] theorem st_law_sum (a0 a1 a2 a3 a4 : Sl) : startD N_law_sum [a0, a1, a2, a3, a4] = [a0, a1, a2, a3, a4, .no, .no, .no, .no] := rfl
@[simp] theorem q_law_sum_law_is_in : C_law_sum.fn "_law_is_in" = some G_law_is_in := by kernel_rfl
@[simp] theorem r_law_sum_law_is_in : C_law_sum.fresh "_law_is_in" = true := by kernel_rfl
def G_law_sum : List D → Option D := runF C_law_sum N_law_sum S_law_sum true 3000 5
def T25 : Tab := T24.addF "_law_sum" G_law_sum true []
/-! is_tuple -/
def N_is_tuple : List Str := ["value", "many"]
def P_is_tuple : List Str := ["value", "many"]
def S_is_tuple : Ss :=
  (.cons (.ret (.all_ (.cons (.isi .tuple (.var 0)) (.cons (.cmp .eq (.len (.var 0)) (.var 1)) .nil))))
  .nil)
theorem sc_is_tuple : scopeOk N_is_tuple P_is_tuple (defScope (topS 4)) = true := by decide +kernel
theorem ch_is_tuple : chkBody N_is_tuple S_is_tuple (defScope (topS 4)) (defBody (topS 4)) = true := by decide +kernel
theorem bi_is_tuple : BindAll "is_tuple" (topS 4) P_is_tuple := fun _ _ _ _ _ _ us hl => match us, hl with | [_, _], _ => rfl
def C_is_tuple : Tab := T25
@[simp] theorem st_is_tuple (a0 a1 : Sl) : startD N_is_tuple [a0, a1] = [a0, a1] := rfl
def G_is_tuple : List D → Option D := runF C_is_tuple N_is_tuple S_is_tuple true 3000 2
def T26 : Tab := T25.addF "is_tuple" G_is_tuple true []
/-! are_rising -/
def N_are_rising : List Str := ["values", "near", "far"]
def P_are_rising : List Str := ["values"]
def S_are_rising : Ss :=
  (.cons (.ret (.all (.comp (.cmp .lt (.var 1) (.var 2)) (.t (.cons (.v 1) (.cons (.v 2) .nil))) (.zip (.var 0) (.sl (.var 0) (.yes (.int 1)) .no)) [("near", 1), ("far", 2)] .no)))
  .nil)
theorem sc_are_rising : scopeOk N_are_rising P_are_rising (defScope (topS 5)) = true := by decide +kernel
theorem ch_are_rising : chkBody N_are_rising S_are_rising (defScope (topS 5)) (defBody (topS 5)) = true := by decide +kernel
theorem bi_are_rising : BindAll "are_rising" (topS 5) P_are_rising := fun _ _ _ _ _ _ us hl => match us, hl with | [_], _ => rfl
def C_are_rising : Tab := T26
@[simp] theorem st_are_rising (a0 : Sl) : startD N_are_rising [a0] = [a0, .no, .no] := rfl
def G_are_rising : List D → Option D := runF C_are_rising N_are_rising S_are_rising true 3000 1
def T27 : Tab := T26.addF "are_rising" G_are_rising true []
/-! is_lot_of -/
def N_is_lot_of : List Str := ["value", "many", "one"]
def P_is_lot_of : List Str := ["value", "many"]
def S_is_lot_of : Ss :=
  (.cons (.ret (.all_ (.cons (.isi .tuple (.var 0)) (.cons (.all (.comp (.call "is_within" (.cons (.var 2) (.cons (.int 0) (.cons (.sub (.var 1) (.int 1)) .nil)))) (.v 2) (.seq (.var 0)) [("one", 2)] .no)) (.cons (.call "are_rising" (.cons (.var 0) .nil)) .nil)))))
  .nil)
theorem sc_is_lot_of : scopeOk N_is_lot_of P_is_lot_of (defScope (topS 6)) = true := by decide +kernel
theorem ch_is_lot_of : chkBody N_is_lot_of S_is_lot_of (defScope (topS 6)) (defBody (topS 6)) = true := by decide +kernel
theorem bi_is_lot_of : BindAll "is_lot_of" (topS 6) P_is_lot_of := fun _ _ _ _ _ _ us hl => match us, hl with | [_, _], _ => rfl
def C_is_lot_of : Tab := T27
@[simp] theorem st_is_lot_of (a0 a1 : Sl) : startD N_is_lot_of [a0, a1] = [a0, a1, .no] := rfl
@[simp] theorem q_is_lot_of_are_rising : C_is_lot_of.fn "are_rising" = some G_are_rising := by kernel_rfl
@[simp] theorem r_is_lot_of_are_rising : C_is_lot_of.fresh "are_rising" = true := by kernel_rfl
@[simp] theorem q_is_lot_of_is_within : C_is_lot_of.fn "is_within" = some G_is_within := by kernel_rfl
@[simp] theorem r_is_lot_of_is_within : C_is_lot_of.fresh "is_within" = true := by kernel_rfl
def G_is_lot_of : List D → Option D := runF C_is_lot_of N_is_lot_of S_is_lot_of true 3000 2
def T28 : Tab := T27.addF "is_lot_of" G_is_lot_of true []
/-! is_family_value -/
def N_is_family_value : List Str := ["value", "near", "far", "one"]
def P_is_family_value : List Str := ["value"]
def S_is_family_value : Ss :=
  (.cons (.ifS (.any_ (.cons (.not (.call "is_tuple" (.cons (.var 0) (.cons (.int 3) .nil)))) (.cons (.not (.isi .str (.ix (.var 0) (.int 0)))) (.cons (.cmp .ne (.ix (.var 0) (.int 0)) (.glob "FAMILY")) .nil))))
  (.cons (.ret (.bl false))
  .nil)
  .nil)
  (.cons (.ifS (.any_ (.cons (.not (.call "is_within" (.cons (.ix (.var 0) (.int 1)) (.cons (.int 1) (.cons (.glob "MOST_THINGS") .nil))))) (.cons (.not (.isi .tuple (.ix (.var 0) (.int 2)))) .nil)))
  (.cons (.ret (.bl false))
  .nil)
  .nil)
  (.cons (.ifS (.not (.all (.comp (.call "is_lot_of" (.cons (.var 3) (.cons (.ix (.var 0) (.int 1)) .nil))) (.v 3) (.seq (.ix (.var 0) (.int 2))) [("one", 3)] .no)))
  (.cons (.ret (.bl false))
  .nil)
  .nil)
  (.cons (.ret (.all (.comp (.cmp .lt (.var 1) (.var 2)) (.t (.cons (.v 1) (.cons (.v 2) .nil))) (.zip (.ix (.var 0) (.int 2)) (.sl (.ix (.var 0) (.int 2)) (.yes (.int 1)) .no)) [("near", 1), ("far", 2)] .no)))
  .nil))))
theorem sc_is_family_value : scopeOk N_is_family_value P_is_family_value (defScope (topS 15)) = true := by decide +kernel
theorem ch_is_family_value : chkBody N_is_family_value S_is_family_value (defScope (topS 15)) (defBody (topS 15)) = true := by decide +kernel
theorem bi_is_family_value : BindAll "is_family_value" (topS 15) P_is_family_value := fun _ _ _ _ _ _ us hl => match us, hl with | [_], _ => rfl
def C_is_family_value : Tab := T28
@[simp] theorem st_is_family_value (a0 : Sl) : startD N_is_family_value [a0] = [a0, .no, .no, .no] := rfl
@[simp] theorem q_is_family_value_is_lot_of : C_is_family_value.fn "is_lot_of" = some G_is_lot_of := by kernel_rfl
@[simp] theorem r_is_family_value_is_lot_of : C_is_family_value.fresh "is_lot_of" = true := by kernel_rfl
@[simp] theorem q_is_family_value_is_tuple : C_is_family_value.fn "is_tuple" = some G_is_tuple := by kernel_rfl
@[simp] theorem r_is_family_value_is_tuple : C_is_family_value.fresh "is_tuple" = true := by kernel_rfl
@[simp] theorem q_is_family_value_is_within : C_is_family_value.fn "is_within" = some G_is_within := by kernel_rfl
@[simp] theorem r_is_family_value_is_within : C_is_family_value.fresh "is_within" = true := by kernel_rfl
@[simp] theorem q_is_family_value_MOST_THINGS : C_is_family_value.glb "MOST_THINGS" = some (.int 6) := by kernel_rfl
@[simp] theorem q_is_family_value_FAMILY : C_is_family_value.glb "FAMILY" = some (.str "family") := by kernel_rfl
def G_is_family_value : List D → Option D := runF C_is_family_value N_is_family_value S_is_family_value true 3000 1
def T29 : Tab := T28.addF "is_family_value" G_is_family_value true []
/-! want_family -/
def N_want_family : List Str := ["family"]
def P_want_family : List Str := ["family"]
def S_want_family : Ss :=
  (.cons (.ifS (.not (.call "is_family_value" (.cons (.var 0) .nil)))
  (.cons .raise
  .nil)
  .nil)
  .nil)
theorem sc_want_family : scopeOk N_want_family P_want_family (defScope (topS 16)) = true := by decide +kernel
theorem ch_want_family : chkBody N_want_family S_want_family (defScope (topS 16)) (defBody (topS 16)) = true := by decide +kernel
theorem bi_want_family : BindAll "want_family" (topS 16) P_want_family := fun _ _ _ _ _ _ us hl => match us, hl with | [_], _ => rfl
def C_want_family : Tab := T29
@[simp] theorem st_want_family (a0 : Sl) : startD N_want_family [a0] = [a0] := rfl
@[simp] theorem q_want_family_is_family_value : C_want_family.fn "is_family_value" = some G_is_family_value := by kernel_rfl
@[simp] theorem r_want_family_is_family_value : C_want_family.fresh "is_family_value" = true := by kernel_rfl
def G_want_family : List D → Option D := runF C_want_family N_want_family S_want_family true 3000 1
def T30 : Tab := T29.addF "want_family" G_want_family true []
/-! all_lots -/
def N_all_lots : List Str := ["things", "found", "thing", "lot"]
def P_all_lots : List Str := ["things"]
def S_all_lots : Ss :=
  (.cons (.asg 1 (.lst (.cons (.tup .nil) .nil)))
  (.cons (.forS (.v 2) (.rng (.var 0))
  (.cons (.asg 1 (.add (.var 1) (.comp (.add (.var 3) (.tup (.cons (.var 2) .nil))) (.v 3) (.seq (.var 1)) [("lot", 3)] .no)))
  .nil))
  (.cons (.ret (.var 1))
  .nil)))
theorem sc_all_lots : scopeOk N_all_lots P_all_lots (defScope (topS 18)) = true := by decide +kernel
theorem ch_all_lots : chkBody N_all_lots S_all_lots (defScope (topS 18)) (defBody (topS 18)) = true := by decide +kernel
theorem bi_all_lots : BindAll "all_lots" (topS 18) P_all_lots := fun _ _ _ _ _ _ us hl => match us, hl with | [_], _ => rfl
def C_all_lots : Tab := T30
@[simp] theorem st_all_lots (a0 : Sl) : startD N_all_lots [a0] = [a0, .no, .no, .no] := rfl
def G_all_lots : List D → Option D := runF C_all_lots N_all_lots S_all_lots true 3000 1
def T31 : Tab := T30.addF "all_lots" G_all_lots true []
/-! marks_of -/
def N_marks_of : List Str := ["family", "lot"]
def P_marks_of : List Str := ["family"]
def S_marks_of : Ss :=
  (.cons (.ret (.comp (.ite (.cmp .isIn (.var 1) (.ix (.var 0) (.int 2))) (.int 1) (.int 0)) (.v 1) (.seq (.call "all_lots" (.cons (.ix (.var 0) (.int 1)) .nil))) [("lot", 1)] .no))
  .nil)
theorem sc_marks_of : scopeOk N_marks_of P_marks_of (defScope (topS 25)) = true := by decide +kernel
theorem ch_marks_of : chkBody N_marks_of S_marks_of (defScope (topS 25)) (defBody (topS 25)) = true := by decide +kernel
theorem bi_marks_of : BindAll "marks_of" (topS 25) P_marks_of := fun _ _ _ _ _ _ us hl => match us, hl with | [_], _ => rfl
def C_marks_of : Tab := T31
@[simp] theorem st_marks_of (a0 : Sl) : startD N_marks_of [a0] = [a0, .no] := rfl
@[simp] theorem q_marks_of_all_lots : C_marks_of.fn "all_lots" = some G_all_lots := by kernel_rfl
@[simp] theorem r_marks_of_all_lots : C_marks_of.fresh "all_lots" = true := by kernel_rfl
def G_marks_of : List D → Option D := runF C_marks_of N_marks_of S_marks_of true 3000 1
def T32 : Tab := T31.addF "marks_of" G_marks_of true []
/-! marks -/
def N_marks : List Str := ["family"]
def P_marks : List Str := ["family"]
def S_marks : Ss :=
  (.cons (.exp (.call "want_family" (.cons (.var 0) .nil)))
  (.cons (.ret (.call "marks_of" (.cons (.var 0) .nil)))
  .nil))
theorem sc_marks : scopeOk N_marks P_marks (defScope (topS 31)) = true := by decide +kernel
theorem ch_marks : chkBody N_marks S_marks (defScope (topS 31)) (defBody (topS 31)) = true := by decide +kernel
theorem bi_marks : BindAll "marks" (topS 31) P_marks := fun _ _ _ _ _ _ us hl => match us, hl with | [_], _ => rfl
def C_marks : Tab := T32
@[simp] theorem st_marks (a0 : Sl) : startD N_marks [a0] = [a0] := rfl
@[simp] theorem q_marks_marks_of : C_marks.fn "marks_of" = some G_marks_of := by kernel_rfl
@[simp] theorem r_marks_marks_of : C_marks.fresh "marks_of" = true := by kernel_rfl
@[simp] theorem q_marks_want_family : C_marks.fn "want_family" = some G_want_family := by kernel_rfl
@[simp] theorem r_marks_want_family : C_marks.fresh "want_family" = true := by kernel_rfl
def G_marks : List D → Option D := runF C_marks N_marks S_marks true 3000 1
def T33 : Tab := T32.addF "marks" G_marks true []
/-! _law_right -/
def N_law_right : List Str := ["pot", "family", "things", "lots", "numbers", "shown", "dues", "told", "named", "back", "near", "far", "is_down", "is_signed", "own", "lot", "one"]
def P_law_right : List Str := ["pot"]
def S_law_right : Ss :=
  (.cons (.asg 1 (.callp "_law_family" 0 (.cons (.int 6) .nil)))
  (.cons (.asg 2 (.ix (.var 1) (.int 1)))
  (.cons (.asgT (.t (.cons (.v 3) (.cons (.v 4) .nil))) (.tup (.cons (.call "_law_lots" (.cons (.var 2) .nil)) (.cons (.callp "_law_numbers" 0 (.cons (.var 2) .nil)) .nil))))
  (.cons (.asg 5 (.repr (.var 4)))
  (.cons (.asg 6 (.comp (.comp (.call "_law_sum" (.cons (.var 4) (.cons (.var 3) (.cons (.var 14) (.cons (.var 12) (.cons (.var 13) .nil)))))) (.v 14) (.seq (.var 3)) [("own", 14)] .no) (.t (.cons (.v 12) (.cons (.v 13) .nil))) (.seq (.lst (.cons (.tup (.cons (.bl true) (.cons (.bl false) .nil))) (.cons (.tup (.cons (.bl false) (.cons (.bl false) .nil))) (.cons (.tup (.cons (.bl true) (.cons (.bl true) .nil))) (.cons (.tup (.cons (.bl false) (.cons (.bl true) .nil))) .nil)))))) [("is_down", 12), ("is_signed", 13)] .no))
  (.cons (.asg 7 (.lst (.cons (.call "sums_down" (.cons (.var 2) (.cons (.var 4) .nil))) (.cons (.call "sums_up" (.cons (.var 2) (.cons (.var 4) .nil))) (.cons (.call "less_down" (.cons (.var 2) (.cons (.var 4) .nil))) (.cons (.call "less_up" (.cons (.var 2) (.cons (.var 4) .nil))) .nil))))))
  (.cons (.asg 8 (.lst (.cons (.callk "sums_down" ["numbers", "things"] [1, 0] .nil (.cons (.tuple (.var 4)) (.cons (.var 2) .nil))) (.cons (.callk "sums_up" ["numbers", "things"] [1, 0] .nil (.cons (.tuple (.var 4)) (.cons (.var 2) .nil))) .nil))))
  (.cons (.app 8 (.callk "less_down" ["numbers", "things"] [1, 0] .nil (.cons (.tuple (.var 4)) (.cons (.var 2) .nil))))
  (.cons (.app 8 (.callk "less_up" ["numbers", "things"] [1, 0] .nil (.cons (.tuple (.var 4)) (.cons (.var 2) .nil))))
  (.cons (.ifS (.cmp .ne (.repr (.lst (.cons (.var 7) (.cons (.var 8) .nil)))) (.repr (.lst (.cons (.var 6) (.cons (.var 6) .nil)))))
  (.cons (.ret (.bl false))
  .nil)
  .nil)
  (.cons (.asg 9 (.lst (.cons (.call "less_down" (.cons (.var 2) (.cons (.ix (.var 7) (.int 0)) .nil))) (.cons (.call "less_up" (.cons (.var 2) (.cons (.ix (.var 7) (.int 1)) .nil))) (.cons (.call "sums_down" (.cons (.var 2) (.cons (.ix (.var 7) (.int 2)) .nil))) (.cons (.call "sums_up" (.cons (.var 2) (.cons (.ix (.var 7) (.int 3)) .nil))) .nil))))))
  (.cons (.ifS (.any_ (.cons (.cmp .ne (.var 9) (.mul (.lst (.cons (.var 4) .nil)) (.int 4))) (.cons (.cmp .ne (.repr (.var 4)) (.var 5)) .nil)))
  (.cons (.ret (.bl false))
  .nil)
  .nil)
  (.cons (.par [10, 11] (.cons (.call "sums_down" (.cons (.var 2) (.cons (.call "marks" (.cons (.var 1) .nil)) .nil))) (.cons (.call "sums_up" (.cons (.var 2) (.cons (.call "marks" (.cons (.var 1) .nil)) .nil))) .nil)))
  (.cons (.ifS (.cmp .ne (.var 10) (.comp (.len (.comp (.var 16) (.v 16) (.seq (.ix (.var 1) (.int 2))) [("one", 16)] (.yes (.call "_law_is_in" (.cons (.var 16) (.cons (.var 15) .nil)))))) (.v 15) (.seq (.var 3)) [("lot", 15)] .no))
  (.cons (.ret (.bl false))
  .nil)
  .nil)
  (.cons (.ret (.cmp .eq (.var 11) (.comp (.len (.comp (.var 16) (.v 16) (.seq (.ix (.var 1) (.int 2))) [("one", 16)] (.yes (.call "_law_is_in" (.cons (.var 15) (.cons (.var 16) .nil)))))) (.v 15) (.seq (.var 3)) [("lot", 15)] .no)))
  .nil)))))))))))))))
theorem sc_law_right : scopeOk N_law_right P_law_right (defScope (topS 47)) = true := by decide +kernel
theorem ch_law_right : chkBody N_law_right S_law_right (defScope (topS 47)) (defBody (topS 47)) = true := by decide +kernel
theorem bi_law_right : BindAll "_law_right" (topS 47) P_law_right := fun _ _ _ _ _ _ us hl => match us, hl with | [_], _ => rfl
def C_law_right : Tab := T33
@[simp] theorem st_law_right (a0 : Sl) : startD N_law_right [a0] = [a0, .no, .no, .no, .no, .no, .no, .no, .no, .no, .no, .no, .no, .no, .no, .no, .no] := rfl
@[simp] theorem q_law_right_law_family : C_law_right.pf "_law_family" = some G_law_family := by kernel_rfl
@[simp] theorem r_law_right_law_family : C_law_right.fresh "_law_family" = true := by kernel_rfl
@[simp] theorem q_law_right_law_is_in : C_law_right.fn "_law_is_in" = some G_law_is_in := by kernel_rfl
@[simp] theorem r_law_right_law_is_in : C_law_right.fresh "_law_is_in" = true := by kernel_rfl
@[simp] theorem q_law_right_law_lots : C_law_right.fn "_law_lots" = some G_law_lots := by kernel_rfl
@[simp] theorem r_law_right_law_lots : C_law_right.fresh "_law_lots" = true := by kernel_rfl
@[simp] theorem q_law_right_law_numbers : C_law_right.pf "_law_numbers" = some G_law_numbers := by kernel_rfl
@[simp] theorem r_law_right_law_numbers : C_law_right.fresh "_law_numbers" = true := by kernel_rfl
@[simp] theorem q_law_right_law_sum : C_law_right.fn "_law_sum" = some G_law_sum := by kernel_rfl
@[simp] theorem r_law_right_law_sum : C_law_right.fresh "_law_sum" = true := by kernel_rfl
@[simp] theorem q_law_right_less_down : C_law_right.fn "less_down" = some G_less_down := by kernel_rfl
@[simp] theorem r_law_right_less_down : C_law_right.fresh "less_down" = true := by kernel_rfl
@[simp] theorem q_law_right_less_up : C_law_right.fn "less_up" = some G_less_up := by kernel_rfl
@[simp] theorem r_law_right_less_up : C_law_right.fresh "less_up" = true := by kernel_rfl
@[simp] theorem q_law_right_marks : C_law_right.fn "marks" = some G_marks := by kernel_rfl
@[simp] theorem r_law_right_marks : C_law_right.fresh "marks" = true := by kernel_rfl
@[simp] theorem q_law_right_sums_down : C_law_right.fn "sums_down" = some G_sums_down := by kernel_rfl
@[simp] theorem r_law_right_sums_down : C_law_right.fresh "sums_down" = true := by kernel_rfl
@[simp] theorem q_law_right_sums_up : C_law_right.fn "sums_up" = some G_sums_up := by kernel_rfl
@[simp] theorem r_law_right_sums_up : C_law_right.fresh "sums_up" = true := by kernel_rfl
@[simp] theorem w_law_right_1 : C_law_right.kw "sums_down" ["numbers", "things"] [1, 0] = true := by kernel_rfl
@[simp] theorem w_law_right_2 : C_law_right.kw "sums_up" ["numbers", "things"] [1, 0] = true := by kernel_rfl
@[simp] theorem w_law_right_3 : C_law_right.kw "less_down" ["numbers", "things"] [1, 0] = true := by kernel_rfl
@[simp] theorem w_law_right_4 : C_law_right.kw "less_up" ["numbers", "things"] [1, 0] = true := by kernel_rfl
def G_law_right : List D → Int × Int → Option (D × (Int × Int)) := runP C_law_right N_law_right S_law_right true 3000 0
def T34 : Tab := T33.addP "_law_right" G_law_right true
/-! _law_pot -/
def N_law_pot : List Str := ["script", "k", "cell"]
def P_law_pot : List Str := ["script", "k"]
def S_law_pot : Ss :=
  (.cons (.asg 2 (.ite (.cmp .lt (.var 1) (.slen 0)) (.abs (.six 0 (.var 1))) (.add (.mul (.int 2293) (.var 1)) (.int 1999))))
  (.cons (.ret (.lst (.cons (.max2 (.int 0) (.sub (.var 2) (.pow 10 18))) (.cons (.add (.mod (.toInt (.add (.add (.mul (.mod (.toInt (.var 2)) (.int 2147483549)) (.int 40692)) (.mul (.int 2293) (.var 1))) (.int 1307))) (.int 2147483563)) (.int 1)) .nil))))
  .nil))
theorem sc_law_pot : scopeOk N_law_pot P_law_pot (defScope (topS 37)) = true := by decide +kernel
theorem ch_law_pot : chkBody N_law_pot S_law_pot (defScope (topS 37)) (defBody (topS 37)) = true := by decide +kernel
theorem bi_law_pot : BindAll "_law_pot" (topS 37) P_law_pot := fun _ _ _ _ _ _ us hl => match us, hl with | [_, _], _ => rfl
def C_law_pot : Tab := T34
@[simp] theorem st_law_pot (a0 a1 : Sl) : startD N_law_pot [a0, a1] = [a0, a1, .no] := rfl
def G_law_pot : List Int → Int → Option (Int × Int) := runS C_law_pot N_law_pot S_law_pot 3000
def T35 : Tab := T34.addS "_law_pot" G_law_pot
/-! law -/
def N_law : List Str := ["script", "k"]
def P_law : List Str := ["script"]
def S_law : Ss :=
  (.cons (.ret (.all (.comp (.calln "_law_right" "_law_pot" 0 (.var 1) .nil) (.v 1) (.rng (.max2 (.int 1) (.min2 (.int 2) (.slen 0)))) [("k", 1)] .no)))
  .nil)
theorem sc_law : scopeOk N_law P_law (defScope (topS 48)) = true := by decide +kernel
theorem ch_law : chkBody N_law S_law (defScope (topS 48)) (defBody (topS 48)) = true := by decide +kernel
theorem bi_law : BindAll "law" (topS 48) P_law := fun _ _ _ _ _ _ us hl => match us, hl with | [_], _ => rfl
def C_law : Tab := T35
@[simp] theorem st_law (a0 : Sl) : startD N_law [a0] = [a0, .no] := rfl
@[simp] theorem q_law_law_pot : C_law.sf "_law_pot" = some G_law_pot := by kernel_rfl
@[simp] theorem q_law_law_right : C_law.pf "_law_right" = some G_law_right := by kernel_rfl
@[simp] theorem r_law_law_right : C_law.fresh "_law_right" = true := by kernel_rfl
def G_law (ns : List Int) : Prop := runL C_law N_law S_law 3000 ns
-- NEVER CALLED ['_law_rest', '_law_turned']
theorem tab_ok {P : Program} {w : World} {K : PySem.W.Frag} {mg : Str → Option Value} {base h : Heap} {t_MOST_THINGS t_FAMILY : Tok} (X : K.In h) (G : h.Ns mainGlobals mg) (hb : ∀ y ∈ bltNames, mg y = none) (a_MOST_THINGS : PySem.W.nsIn K mainGlobals "MOST_THINGS" = some (some (.int 6 t_MOST_THINGS))) (a_FAMILY : PySem.W.nsIn K mainGlobals "FAMILY" = some (some (.str "family" t_FAMILY))) (d_law_draw : Dx K mg "_law_draw" (topS 38)) (d_law_pick : Dx K mg "_law_pick" (topS 39)) (d_law_lots : Dx K mg "_law_lots" (topS 40)) (d_law_family : Dx K mg "_law_family" (topS 41)) (d_law_numbers : Dx K mg "_law_numbers" (topS 45)) (d_is_integer : Dx K mg "is_integer" (topS 1)) (d_is_within : Dx K mg "is_within" (topS 2)) (d_want_things : Dx K mg "want_things" (topS 17)) (d_is_list : Dx K mg "is_list" (topS 3)) (d_power_of : Dx K mg "power_of" (topS 19)) (d_are_numbers_for : Dx K mg "are_numbers_for" (topS 21)) (d_want_numbers : Dx K mg "want_numbers" (topS 22)) (d_want_asked : Dx K mg "want_asked" (topS 23)) (d_has_bit : Dx K mg "has_bit" (topS 24)) (d_passed : Dx K mg "passed" (topS 26)) (d_down : Dx K mg "down" (topS 27)) (d_sums_down : Dx K mg "sums_down" (topS 32)) (d_up : Dx K mg "up" (topS 29)) (d_sums_up : Dx K mg "sums_up" (topS 33)) (d_down_less : Dx K mg "down_less" (topS 28)) (d_less_down : Dx K mg "less_down" (topS 34)) (d_up_less : Dx K mg "up_less" (topS 30)) (d_less_up : Dx K mg "less_up" (topS 35)) (d_law_is_in : Dx K mg "_law_is_in" (topS 42)) (d_law_sum : Dx K mg "_law_sum" (topS 46)) (d_is_tuple : Dx K mg "is_tuple" (topS 4)) (d_are_rising : Dx K mg "are_rising" (topS 5)) (d_is_lot_of : Dx K mg "is_lot_of" (topS 6)) (d_is_family_value : Dx K mg "is_family_value" (topS 15)) (d_want_family : Dx K mg "want_family" (topS 16)) (d_all_lots : Dx K mg "all_lots" (topS 18)) (d_marks_of : Dx K mg "marks_of" (topS 25)) (d_marks : Dx K mg "marks" (topS 31)) (d_law_right : Dx K mg "_law_right" (topS 47)) (d_law_pot : Dx K mg "_law_pot" (topS 37)) :
    TabOk P w K mg base T35 35 := by
  have t0 : TabOk P w K mg base T0 0 := ((tab0_ok hb).addI X G a_MOST_THINGS).addT X G a_FAMILY
  have t1 : TabOk P w K mg base T1 1 := t0.addP (n := 3000) (fr := false) (m := 1) d_law_draw sc_law_draw ch_law_draw (by decide) bi_law_draw rfl rfl
  have t2 : TabOk P w K mg base T2 2 := t1.addP (n := 3000) (fr := false) (m := 1) d_law_pick sc_law_pick ch_law_pick (by decide) bi_law_pick rfl rfl
  have t3 : TabOk P w K mg base T3 3 := t2.addF (n := 3000) (fr := true) (kws := []) d_law_lots sc_law_lots ch_law_lots (by decide) bi_law_lots (fun p hp => by cases hp) rfl
  have t4 : TabOk P w K mg base T4 4 := t3.addP (n := 3000) (fr := true) (m := 1) d_law_family sc_law_family ch_law_family (by decide) bi_law_family rfl rfl
  have t5 : TabOk P w K mg base T5 5 := t4.addP (n := 3000) (fr := true) (m := 1) d_law_numbers sc_law_numbers ch_law_numbers (by decide) bi_law_numbers rfl rfl
  have t6 : TabOk P w K mg base T6 6 := t5.addF (n := 3000) (fr := true) (kws := []) d_is_integer sc_is_integer ch_is_integer (by decide) bi_is_integer (fun p hp => by cases hp) rfl
  have t7 : TabOk P w K mg base T7 7 := t6.addF (n := 3000) (fr := true) (kws := []) d_is_within sc_is_within ch_is_within (by decide) bi_is_within (fun p hp => by cases hp) rfl
  have t8 : TabOk P w K mg base T8 8 := t7.addF (n := 3000) (fr := true) (kws := []) d_want_things sc_want_things ch_want_things (by decide) bi_want_things (fun p hp => by cases hp) rfl
  have t9 : TabOk P w K mg base T9 9 := t8.addF (n := 3000) (fr := true) (kws := []) d_is_list sc_is_list ch_is_list (by decide) bi_is_list (fun p hp => by cases hp) rfl
  have t10 : TabOk P w K mg base T10 10 := t9.addF (n := 3000) (fr := true) (kws := []) d_power_of sc_power_of ch_power_of (by decide) bi_power_of (fun p hp => by cases hp) rfl
  have t11 : TabOk P w K mg base T11 11 := t10.addF (n := 3000) (fr := true) (kws := []) d_are_numbers_for sc_are_numbers_for ch_are_numbers_for (by decide) bi_are_numbers_for (fun p hp => by cases hp) rfl
  have t12 : TabOk P w K mg base T12 12 := t11.addF (n := 3000) (fr := true) (kws := []) d_want_numbers sc_want_numbers ch_want_numbers (by decide) bi_want_numbers (fun p hp => by cases hp) rfl
  have t13 : TabOk P w K mg base T13 13 := t12.addF (n := 3000) (fr := true) (kws := []) d_want_asked sc_want_asked ch_want_asked (by decide) bi_want_asked (fun p hp => by cases hp) rfl
  have t14 : TabOk P w K mg base T14 14 := t13.addF (n := 3000) (fr := true) (kws := []) d_has_bit sc_has_bit ch_has_bit (by decide) bi_has_bit (fun p hp => by cases hp) rfl
  have t15 : TabOk P w K mg base T15 15 := t14.addF (n := 3000) (fr := true) (kws := []) d_passed sc_passed ch_passed (by decide) bi_passed (fun p hp => by cases hp) rfl
  have t16 : TabOk P w K mg base T16 16 := t15.addF (n := 3000) (fr := true) (kws := []) d_down sc_down ch_down (by decide) bi_down (fun p hp => by cases hp) rfl
  have t17 : TabOk P w K mg base T17 17 := t16.addF (n := 3000) (fr := true) (kws := [(["numbers", "things"], [1, 0])]) d_sums_down sc_sums_down ch_sums_down (by decide) bi_sums_down (fun p hp => by
    simp only [List.mem_cons, List.not_mem_nil, or_false] at hp
    rcases hp with rfl
    · exact bk_sums_down_0) rfl
  have t18 : TabOk P w K mg base T18 18 := t17.addF (n := 3000) (fr := true) (kws := []) d_up sc_up ch_up (by decide) bi_up (fun p hp => by cases hp) rfl
  have t19 : TabOk P w K mg base T19 19 := t18.addF (n := 3000) (fr := true) (kws := [(["numbers", "things"], [1, 0])]) d_sums_up sc_sums_up ch_sums_up (by decide) bi_sums_up (fun p hp => by
    simp only [List.mem_cons, List.not_mem_nil, or_false] at hp
    rcases hp with rfl
    · exact bk_sums_up_0) rfl
  have t20 : TabOk P w K mg base T20 20 := t19.addF (n := 3000) (fr := true) (kws := []) d_down_less sc_down_less ch_down_less (by decide) bi_down_less (fun p hp => by cases hp) rfl
  have t21 : TabOk P w K mg base T21 21 := t20.addF (n := 3000) (fr := true) (kws := [(["numbers", "things"], [1, 0])]) d_less_down sc_less_down ch_less_down (by decide) bi_less_down (fun p hp => by
    simp only [List.mem_cons, List.not_mem_nil, or_false] at hp
    rcases hp with rfl
    · exact bk_less_down_0) rfl
  have t22 : TabOk P w K mg base T22 22 := t21.addF (n := 3000) (fr := true) (kws := []) d_up_less sc_up_less ch_up_less (by decide) bi_up_less (fun p hp => by cases hp) rfl
  have t23 : TabOk P w K mg base T23 23 := t22.addF (n := 3000) (fr := true) (kws := [(["numbers", "things"], [1, 0])]) d_less_up sc_less_up ch_less_up (by decide) bi_less_up (fun p hp => by
    simp only [List.mem_cons, List.not_mem_nil, or_false] at hp
    rcases hp with rfl
    · exact bk_less_up_0) rfl
  have t24 : TabOk P w K mg base T24 24 := t23.addF (n := 3000) (fr := true) (kws := []) d_law_is_in sc_law_is_in ch_law_is_in (by decide) bi_law_is_in (fun p hp => by cases hp) rfl
  have t25 : TabOk P w K mg base T25 25 := t24.addF (n := 3000) (fr := true) (kws := []) d_law_sum sc_law_sum ch_law_sum (by decide) bi_law_sum (fun p hp => by cases hp) rfl
  have t26 : TabOk P w K mg base T26 26 := t25.addF (n := 3000) (fr := true) (kws := []) d_is_tuple sc_is_tuple ch_is_tuple (by decide) bi_is_tuple (fun p hp => by cases hp) rfl
  have t27 : TabOk P w K mg base T27 27 := t26.addF (n := 3000) (fr := true) (kws := []) d_are_rising sc_are_rising ch_are_rising (by decide) bi_are_rising (fun p hp => by cases hp) rfl
  have t28 : TabOk P w K mg base T28 28 := t27.addF (n := 3000) (fr := true) (kws := []) d_is_lot_of sc_is_lot_of ch_is_lot_of (by decide) bi_is_lot_of (fun p hp => by cases hp) rfl
  have t29 : TabOk P w K mg base T29 29 := t28.addF (n := 3000) (fr := true) (kws := []) d_is_family_value sc_is_family_value ch_is_family_value (by decide) bi_is_family_value (fun p hp => by cases hp) rfl
  have t30 : TabOk P w K mg base T30 30 := t29.addF (n := 3000) (fr := true) (kws := []) d_want_family sc_want_family ch_want_family (by decide) bi_want_family (fun p hp => by cases hp) rfl
  have t31 : TabOk P w K mg base T31 31 := t30.addF (n := 3000) (fr := true) (kws := []) d_all_lots sc_all_lots ch_all_lots (by decide) bi_all_lots (fun p hp => by cases hp) rfl
  have t32 : TabOk P w K mg base T32 32 := t31.addF (n := 3000) (fr := true) (kws := []) d_marks_of sc_marks_of ch_marks_of (by decide) bi_marks_of (fun p hp => by cases hp) rfl
  have t33 : TabOk P w K mg base T33 33 := t32.addF (n := 3000) (fr := true) (kws := []) d_marks sc_marks ch_marks (by decide) bi_marks (fun p hp => by cases hp) rfl
  have t34 : TabOk P w K mg base T34 34 := t33.addP (n := 3000) (fr := true) (m := 0) d_law_right sc_law_right ch_law_right (by decide) bi_law_right rfl rfl
  have t35 : TabOk P w K mg base T35 35 := t34.addS (n := 3000) d_law_pot sc_law_pot ch_law_pot (by decide) bi_law_pot rfl
  exact t35
end L91
namespace L91
open PySem L2 Z
def PotOk (xy : Int × Int) : Prop := 0 ≤ xy.1 ∧ 0 ≤ xy.2 ∧ xy.2 < 2 ^ 32
theorem law_draw (m : Int) (h : 0 < m) (h2 : m < 1073741824) (xy : Int × Int) (ok : PotOk xy) : ∃ d xy', G_law_draw [.int m] xy = some (.int d, xy') ∧ 0 ≤ d ∧ d < m ∧ PotOk xy' := by
  obtain ⟨x, y⟩ := xy
  obtain ⟨h3, h4, h5⟩ := ok
  simp only at h3 h4 h5
  by_cases hx : 0 < x
  · refine ⟨x % m, (x / m, y), ?_, Int.emod_nonneg _ (by omega), Int.emod_lt_of_pos _ h, Int.ediv_nonneg h3 (by omega), h4, h5⟩
    simp [G_law_draw, runP, S_law_draw, cmpD, hx, asBool, exS, asInt, h, h2, notL]
  · have b1 := Int.emod_nonneg (y * 40014 + 1307) (show (2147483587 : Int) ≠ 0 by decide)
    have b2 := Int.emod_lt_of_pos (y * 40014 + 1307) (show (0 : Int) < 2147483587 by decide)
    refine ⟨((y * 40014 + 1307) % 2147483587 * ((y * 40014 + 1307) % 2147483587) % 2147483549 / 17) % m, (x, (y * 40014 + 1307) % 2147483587), ?_, Int.emod_nonneg _ (by omega), Int.emod_lt_of_pos _ h, h3, b1, by simp only; omega⟩
    generalize hz : (y * 40014 + 1307) % 2147483587 = z at *
    have s1 : smallI y = true := by simp [smallI]; omega
    have s2 : smallI z = true := by simp [smallI]; omega
    simp [G_law_draw, runP, S_law_draw, cmpD, hx, asBool, exS, asInt, notL, mulD, addD, modD, fdivD, s1, s2, hz, h]
end L91
namespace L91
open PySem L2 Z
/-! lots -/
def lotsN : Nat → List (List Nat)
  | 0 => [[]]
  | t + 1 => lotsN t ++ (lotsN t).map fun l => l ++ [t]
def lotD (l : List Nat) : D := .tuple (l.map fun (i : Nat) => .int (i : Int))
def famD (t : Nat) (F : List (List Nat)) : D := .tuple [.str "family", .int t, .tuple (F.map lotD)]
theorem six {p : Nat → Prop} (h1 : p 1) (h2 : p 2) (h3 : p 3) (h4 : p 4) (h5 : p 5) (h6 : p 6) (t : Nat) (a : 1 ≤ t) (b : t ≤ 6) : p t := by
  have : t = 1 ∨ t = 2 ∨ t = 3 ∨ t = 4 ∨ t = 5 ∨ t = 6 := by omega
  rcases this with rfl | rfl | rfl | rfl | rfl | rfl <;> assumption
theorem law_lots (t : Nat) (a : 1 ≤ t) (b : t ≤ 6) : G_law_lots [.int t] = some (.list ((lotsN t).map lotD)) := by
  refine six (p := fun t => G_law_lots [.int t] = some (.list ((lotsN t).map lotD))) ?_ ?_ ?_ ?_ ?_ ?_ t a b <;> kernel_rfl
theorem all_lots (t : Nat) (a : 1 ≤ t) (b : t ≤ 6) : G_all_lots [.int t] = some (.list ((lotsN t).map lotD)) := by
  refine six (p := fun t => G_all_lots [.int t] = some (.list ((lotsN t).map lotD))) ?_ ?_ ?_ ?_ ?_ ?_ t a b <;> kernel_rfl
theorem power_of (t : Nat) (a : 1 ≤ t) (b : t ≤ 6) : G_power_of [.int t] = some (.int (2 ^ t : Nat)) := by
  refine six (p := fun t => G_power_of [.int t] = some (.int (2 ^ t : Nat))) ?_ ?_ ?_ ?_ ?_ ?_ t a b <;> kernel_rfl
theorem lots_len (t : Nat) (b : t ≤ 6) : (lotsN t).length = 2 ^ t := by
  have : t = 0 ∨ t = 1 ∨ t = 2 ∨ t = 3 ∨ t = 4 ∨ t = 5 ∨ t = 6 := by omega
  rcases this with rfl | rfl | rfl | rfl | rfl | rfl | rfl <;> decide +kernel
theorem lots_sub (t : Nat) (b : t ≤ 6) : (lotsN t).Sublist (lotsN 6) := by
  have h : ∀ t, (lotsN t).Sublist (lotsN (t + 1)) := fun t => List.sublist_append_left _ _
  have : t = 0 ∨ t = 1 ∨ t = 2 ∨ t = 3 ∨ t = 4 ∨ t = 5 ∨ t = 6 := by omega
  rcases this with rfl | rfl | rfl | rfl | rfl | rfl | rfl
  · exact (h 0).trans ((h 1).trans ((h 2).trans ((h 3).trans ((h 4).trans (h 5)))))
  · exact (h 1).trans ((h 2).trans ((h 3).trans ((h 4).trans (h 5))))
  · exact (h 2).trans ((h 3).trans ((h 4).trans (h 5)))
  · exact (h 3).trans ((h 4).trans (h 5))
  · exact (h 4).trans (h 5)
  · exact h 5
  · exact List.Sublist.refl _
def ltL (a b : List Nat) : Bool := ltD (lotD a) (lotD b)
theorem lots6_nodup : (lotsN 6).Nodup := by decide +kernel
theorem lots6_ok : ((lotsN 6).all fun l => eqOk (lotD l) && isT (.seq .int) (lotD l)) = true := by decide +kernel
theorem lots6_tot : ((lotsN 6).all fun a => (lotsN 6).all fun b => (a == b) || ltL a b || ltL b a) = true := by decide +kernel
theorem lots6_irr : ((lotsN 6).all fun a => !ltL a a) = true := by decide +kernel
theorem eqOk_lot {l : List Nat} (h : l ∈ lotsN 6) : eqOk (lotD l) = true := by
  have := List.all_eq_true.mp lots6_ok l h
  simp only [Bool.and_eq_true] at this
  exact this.1
theorem isT_lot (l : List Nat) : isT (.seq .int) (lotD l) = true := by
  simp [isT, lotD, List.all_map]
theorem alike_lot (a b : List Nat) : PySem.W.alike (lotD a) (lotD b) = true := isT_alike _ _ _ (isT_lot a) (isT_lot b)
/-! sorting -/
theorem insD_map {α β : Type} {lt : β → β → Bool} (f : α → β) (x : α) : ∀ l : List α, insD lt (f x) (l.map f) = (insD (fun a b => lt (f a) (f b)) x l).map f
  | [] => rfl
  | y :: l => by
    simp only [insD, List.map_cons]
    split
    · rw [insD_map f x l]; rfl
    · rfl
theorem sortD_map {α β : Type} {lt : β → β → Bool} (f : α → β) : ∀ l : List α, sortD lt (l.map f) = (sortD (fun a b => lt (f a) (f b)) l).map f
  | [] => rfl
  | x :: l => by
    simp only [sortD, List.map_cons]
    rw [sortD_map f l, insD_map]
theorem insD_perm {α : Type} {lt : α → α → Bool} (x : α) : ∀ l : List α, (insD lt x l).Perm (x :: l)
  | [] => List.Perm.refl _
  | y :: l => by
    simp only [insD]
    split
    · exact ((insD_perm x l).cons y).trans (List.Perm.swap x y l)
    · exact List.Perm.refl _
theorem sortD_perm {α : Type} {lt : α → α → Bool} : ∀ l : List α, (sortD lt l).Perm l
  | [] => List.Perm.refl _
  | x :: l => (insD_perm x _).trans ((sortD_perm l).cons x)
theorem ltL_trans {a b c : List Nat} (h1 : ltL a b = true) (h2 : ltL b c = true) : ltL a c = true :=
  ltD_trans h1 h2
/-- distinct lots, sorted -/
def Srt (F : List (List Nat)) : Prop := F.Pairwise fun a b => ltL a b = true
theorem ins_srt (x : List Nat) (hx : x ∈ lotsN 6) : ∀ l : List (List Nat), (∀ a ∈ l, a ∈ lotsN 6) → x ∉ l → Srt l → Srt (insD ltL x l)
  | [], _, _, _ => List.pairwise_singleton _ _
  | y :: l, h, hn, hs => by
    have hs' := List.pairwise_cons.mp hs
    simp only [insD]
    split
    · rename_i hlt
      refine List.pairwise_cons.mpr ⟨fun a ha => ?_, ins_srt x hx l (fun a ha => h a (List.mem_cons_of_mem _ ha)) (fun z => hn (List.mem_cons_of_mem _ z)) hs'.2⟩
      rcases List.mem_cons.mp ((insD_perm x l).mem_iff.mp ha) with rfl | ha
      · exact hlt
      · exact hs'.1 a ha
    · rename_i hlt
      have ht := List.all_eq_true.mp (List.all_eq_true.mp lots6_tot x hx) y (h y (List.mem_cons_self ..))
      have hxy : ltL x y = true := by
        simp only [Bool.or_eq_true, beq_iff_eq] at ht
        rcases ht with (ht | ht) | ht
        · exact absurd (by rw [ht]; exact List.mem_cons_self ..) hn
        · exact ht
        · exact absurd ht hlt
      refine List.pairwise_cons.mpr ⟨fun a ha => ?_, hs⟩
      rcases List.mem_cons.mp ha with rfl | ha
      · exact hxy
      · exact ltL_trans hxy (hs'.1 a ha)
theorem sort_srt : ∀ l : List (List Nat), (∀ a ∈ l, a ∈ lotsN 6) → l.Nodup → Srt (sortD ltL l)
  | [], _, _ => List.Pairwise.nil
  | x :: l, h, hn => by
    have hn' := List.nodup_cons.mp hn
    refine ins_srt x (h x (List.mem_cons_self ..)) _ (fun a ha => h a (List.mem_cons_of_mem _ ((sortD_perm l).mem_iff.mp ha))) (fun z => hn'.1 ((sortD_perm l).mem_iff.mp z)) (sort_srt l (fun a ha => h a (List.mem_cons_of_mem _ ha)) hn'.2)
/-- a family of t things -/
structure Fam (t : Nat) (F : List (List Nat)) : Prop where
  lo : 1 ≤ t
  hi : t ≤ 6
  srt : Srt F
  ex : ∃ sub, sub.Sublist (lotsN t) ∧ F.Perm sub
theorem Fam.mem {t : Nat} {F : List (List Nat)} (h : Fam t F) {l : List Nat} (hl : l ∈ F) : l ∈ lotsN t := by
  obtain ⟨sub, h1, h2⟩ := h.ex
  exact h1.subset (h2.mem_iff.mp hl)
theorem Fam.mem6 {t : Nat} {F : List (List Nat)} (h : Fam t F) {l : List Nat} (hl : l ∈ F) : l ∈ lotsN 6 := (lots_sub t h.hi).subset (h.mem hl)
theorem Fam.len {t : Nat} {F : List (List Nat)} (h : Fam t F) : F.length ≤ 64 := by
  obtain ⟨sub, h1, h2⟩ := h.ex
  rw [h2.length_eq]
  exact Nat.le_trans (h1.trans (lots_sub t h.hi)).length_le (by decide +kernel)
theorem ev_sorted_lots {Γ : Tab} {e : E} {δ : Dl} {π π' : Pot} {sub : List (List Nat)} (h : evE Γ e δ π = some (.list (sub.map lotD), π')) (h6 : ∀ a ∈ sub, a ∈ lotsN 6) (hl : sub.length ≤ maxSize) :
    evE Γ (.sorted (.seq .int) e) δ π = some (.list ((sortD ltL sub).map lotD), π') := by
  have h1 : (sub.map lotD).all (isT (.seq .int)) = true := by
    rw [List.all_map]; exact List.all_eq_true.mpr fun a _ => isT_lot a
  have h2 : (sub.map lotD).all eqOk = true := by
    rw [List.all_map]; exact List.all_eq_true.mpr fun a ha => eqOk_lot (h6 a ha)
  have hs : sortD ltD (sub.map lotD) = (sortD ltL sub).map lotD := sortD_map lotD sub
  rw [ev_sorted, h]
  simp only [Option.bind_eq_bind, Option.bind_some, items, h1, h2, List.length_map, hl, decide_true, Bool.and_self, if_true, hs]
  rfl
/-! drawing -/
theorem atI_in {α : Type} {l : List α} {d : Int} (h0 : 0 ≤ d) (h1 : d < l.length) : ∃ v ∈ l, L2.atI l d = some v := by
  have h2 : d.toNat < l.length := by omega
  refine ⟨l[d.toNat], List.getElem_mem h2, ?_⟩
  simp [L2.atI, L2.ixN, h0, h1, h2]
theorem law_pick (l : List D) (h : l ≠ []) (hl : l.length < 1073741824) (xy : Int × Int) (ok : PotOk xy) : ∃ v ∈ l, ∃ xy', G_law_pick [.list l] xy = some (v, xy') ∧ PotOk xy' := by
  have h0 : 0 < l.length := List.length_pos_iff.mpr h
  obtain ⟨d, xy', e1, e2, e3, e4⟩ := law_draw (l.length : Int) (by omega) (by omega) xy ok
  obtain ⟨v, hv, e5⟩ := atI_in e2 e3
  refine ⟨v, hv, xy', ?_, e4⟩
  simp [G_law_pick, runP, S_law_pick, items, e1, ixD, e5]
theorem law_family (xy : Int × Int) (ok : PotOk xy) : ∃ t F xy', G_law_family [.int 6] xy = some (famD t F, xy') ∧ Fam t F ∧ PotOk xy' := by
  obtain ⟨d, xy1, e1, e2, e3, ok1⟩ := law_draw 6 (by decide) (by decide) xy ok
  obtain ⟨sh, hsh, xy2, e4, ok2⟩ := law_pick [.int 1, .int 2, .int 3, .int 4, .int 6] (by simp) (by simp) xy1 ok1
  obtain ⟨s, rfl⟩ : ∃ s, sh = .int s := by
    simp only [List.mem_cons, List.not_mem_nil, or_false] at hsh
    rcases hsh with rfl | rfl | rfl | rfl | rfl <;> exact ⟨_, rfl⟩
  obtain ⟨t, ht⟩ : ∃ t : Nat, 1 + d = (t : Int) := ⟨(1 + d).toNat, by omega⟩
  have t1 : 1 ≤ t := by omega
  have t6 : t ≤ 6 := by omega
  have key := compL_draw (asg := fun d => asgP (.v 4) d (wipeD [.pot, .val (.int 6), .val (.int t), .val (.int s), .no] [4])) (cond := fun δ' π' => evC C_law_family (.yes (.cmp .lt (.callp "_law_draw" 0 (.cons (.int 7) .nil)) (.var 3))) δ' π')
    (elt := fun δ' π' => evE C_law_family (.var 4) δ' π') lotD (fun π => ∃ xy, π = some xy ∧ PotOk xy) (fun l d => d = lotD l) (lotsN t) (some xy2) ⟨xy2, rfl, ok2⟩ fun l hl π ⟨xy3, hπ, ok3⟩ => by
      subst hπ
      obtain ⟨d7, xy4, g1, g2, g3, g4⟩ := law_draw 7 (by decide) (by decide) xy3 ok3
      refine ⟨[.pot, .val (.int 6), .val (.int t), .val (.int s), .val (lotD l)], decide (d7 < s), some xy4, by simp [asgP, wipeD], ?_, ⟨xy4, rfl, g4⟩, fun _ => ⟨lotD l, some xy4, by simp, ⟨xy4, rfl, g4⟩, rfl⟩⟩
      simp [g1, cmpD, asBool]
  obtain ⟨ys, π', k1, ⟨xy5, rfl, ok5⟩, k3, k4⟩ := key
  have hys : ys.map (·.2) = (ys.map (·.1)).map lotD := by
    rw [List.map_map]
    exact List.map_congr_left fun q hq => k4 q hq
  rw [hys] at k1
  generalize ys.map (·.1) = sub at k1 k3
  have sub6 : ∀ a ∈ sub, a ∈ lotsN 6 := fun a ha => (lots_sub t t6).subset (k3.subset ha)
  have nd : sub.Nodup := (k3.trans (lots_sub t t6)).nodup lots6_nodup
  refine ⟨t, sortD ltL sub, xy5, ?_, ⟨t1, t6, sort_srt sub sub6 nd, sub, k3, sortD_perm sub⟩, ok5⟩
  have ll : (lotsN t).length ≤ maxSize := by
    rw [lots_len t t6]
    exact Nat.le_trans (Nat.pow_le_pow_right (by decide) t6) (by decide)
  have c1 : evE C_law_family (.comp (.var 4) (.v 4) (.seq (.call "_law_lots" (.cons (.var 2) .nil))) [("lot", 4)] (.yes (.cmp .lt (.callp "_law_draw" 0 (.cons (.int 7) .nil)) (.var 3)))) [.pot, .val (.int 6), .val (.int t), .val (.int s), .no] (some xy2) = some (.list (sub.map lotD), some xy5) := by
    refine ev_compE (ds := (lotsN t).map lotD) (π1 := some xy2) ?_ (by rw [List.length_map]; exact ll) k1
    simp [law_lots t t1 t6, items]
  have c2 := ev_sorted_lots c1 sub6 (Nat.le_trans k3.length_le ll)
  simp [G_law_family, runP, S_law_family, addD, e1, e4, ht, asgP, asgPs, demote, demo1, keeps, keepsS, peeks, c2, -ev_sorted, items, Z.fresh, notL, famD]
end L91
namespace L91
open PySem L2 Z
theorem law_numbers (t : Nat) (t1 : 1 ≤ t) (t6 : t ≤ 6) (xy : Int × Int) (ok : PotOk xy) : ∃ (l : List Int) (xy' : Int × Int), G_law_numbers [.int t] xy = some (.list (l.map .int), xy') ∧ l.length = 2 ^ t ∧ (∀ n ∈ l, -1000000 ≤ n ∧ n ≤ 1000000) ∧ PotOk xy' := by
  obtain ⟨v, hv, xy1, e1, ok1⟩ := law_pick [.int 2, .int 3, .int 9, .int 1000000] (by simp) (by simp) xy ok
  obtain ⟨m, rfl, m1, m2⟩ : ∃ m, v = .int m ∧ 2 ≤ m ∧ m ≤ 1000000 := by
    simp only [List.mem_cons, List.not_mem_nil, or_false] at hv
    rcases hv with rfl | rfl | rfl | rfl <;> exact ⟨_, rfl, by decide, by decide⟩
  have ll : (lotsN t).length ≤ maxSize := by
    rw [lots_len t t6]
    exact Nat.le_trans (Nat.pow_le_pow_right (by decide) t6) (by decide)
  have key := compL_drawAll (asg := fun d => asgP (.v 3) d (wipeD [.pot, .val (.int t), .val (.int m), .no] [3])) (cond := fun δ' π' => evC C_law_numbers .no δ' π')
    (elt := fun δ' π' => evE C_law_numbers (.sub (.callp "_law_draw" 0 (.cons (.add (.mul (.int 2) (.var 2)) (.int 1)) .nil)) (.var 2)) δ' π') lotD (fun π => ∃ xy, π = some xy ∧ PotOk xy) (fun d => ∃ n, d = .int n ∧ -1000000 ≤ n ∧ n ≤ 1000000) (lotsN t) (some xy1) ⟨xy1, rfl, ok1⟩ fun l hl π ⟨xy3, hπ, ok3⟩ => by
      subst hπ
      obtain ⟨d7, xy4, g1, g2, g3, g4⟩ := law_draw (2 * m + 1) (by omega) (by omega) xy3 ok3
      refine ⟨[.pot, .val (.int t), .val (.int m), .val (lotD l)], .int (d7 - m), some xy4, by simp [asgP, wipeD], by simp, ?_, ⟨xy4, rfl, g4⟩, _, rfl, by omega, by omega⟩
      simp [mulD, smallI, addD, g1, asInt]
  obtain ⟨ds, π', k1, ⟨xy5, rfl, ok5⟩, k3, k4⟩ := key
  have hl : ∃ l : List Int, ds = l.map .int ∧ ∀ n ∈ l, -1000000 ≤ n ∧ n ≤ 1000000 := by
    clear k1 k3
    induction ds with
    | nil => exact ⟨[], rfl, fun n h => by cases h⟩
    | cons d ds ih =>
      obtain ⟨l, rfl, h⟩ := ih fun d hd => k4 d (List.mem_cons_of_mem _ hd)
      obtain ⟨n, rfl, h1⟩ := k4 d (List.mem_cons_self ..)
      exact ⟨n :: l, rfl, fun m hm => (List.mem_cons.mp hm).elim (fun z => z ▸ h1) (h m)⟩
  obtain ⟨l, rfl, hb⟩ := hl
  refine ⟨l, xy5, ?_, by rw [← lots_len t t6, ← k3, List.length_map], hb, ok5⟩
  have c1 : evE C_law_numbers (.comp (.sub (.callp "_law_draw" 0 (.cons (.add (.mul (.int 2) (.var 2)) (.int 1)) .nil)) (.var 2)) (.v 3) (.seq (.call "_law_lots" (.cons (.var 1) .nil))) [("lot", 3)] .no) [.pot, .val (.int t), .val (.int m), .no] (some xy1) = some (.list (l.map .int), some xy5) := by
    refine ev_compE (ds := (lotsN t).map lotD) (π1 := some xy1) ?_ (by rw [List.length_map]; exact ll) k1
    simp [law_lots t t1 t6, items]
  simp [G_law_numbers, runP, S_law_numbers, e1, demote, demo1, keeps, keepsS, peeks, Z.fresh, mkSl, c1, notL, isVar]
/-! families pass -/
def isT1 : Option D → Bool
  | some (.bool true) => true
  | _ => false
theorem isT1_of {o : Option D} (h : isT1 o = true) : o = some (.bool true) := by
  cases o with
  | none => cases h
  | some d =>
    cases d with
    | bool b => cases b <;> first | rfl | cases h
    | _ => cases h
theorem is_lot_of (t : Nat) (t1 : 1 ≤ t) (t6 : t ≤ 6) : ∀ l ∈ lotsN t, G_is_lot_of [lotD l, .int t] = some (.bool true) := by
  refine six (p := fun t => ∀ l ∈ lotsN t, G_is_lot_of [lotD l, .int t] = some (.bool true)) ?_ ?_ ?_ ?_ ?_ ?_ t t1 t6
  · intro l hl; exact isT1_of (List.all_eq_true.mp (show ((lotsN 1).all fun l => isT1 (G_is_lot_of [lotD l, .int (1 : Nat)])) = true by decide +kernel) l hl)
  · intro l hl; exact isT1_of (List.all_eq_true.mp (show ((lotsN 2).all fun l => isT1 (G_is_lot_of [lotD l, .int (2 : Nat)])) = true by decide +kernel) l hl)
  · intro l hl; exact isT1_of (List.all_eq_true.mp (show ((lotsN 3).all fun l => isT1 (G_is_lot_of [lotD l, .int (3 : Nat)])) = true by decide +kernel) l hl)
  · intro l hl; exact isT1_of (List.all_eq_true.mp (show ((lotsN 4).all fun l => isT1 (G_is_lot_of [lotD l, .int (4 : Nat)])) = true by decide +kernel) l hl)
  · intro l hl; exact isT1_of (List.all_eq_true.mp (show ((lotsN 5).all fun l => isT1 (G_is_lot_of [lotD l, .int (5 : Nat)])) = true by decide +kernel) l hl)
  · intro l hl; exact isT1_of (List.all_eq_true.mp (show ((lotsN 6).all fun l => isT1 (G_is_lot_of [lotD l, .int (6 : Nat)])) = true by decide +kernel) l hl)
theorem is_within_t (t : Nat) (t1 : 1 ≤ t) (t6 : t ≤ 6) : G_is_within [.int t, .int 1, .int 6] = some (.bool true) := by
  refine six (p := fun t => G_is_within [.int t, .int 1, .int 6] = some (.bool true)) ?_ ?_ ?_ ?_ ?_ ?_ t t1 t6 <;> kernel_rfl
theorem srt_zip : ∀ {F : List (List Nat)}, Srt F → ∀ p ∈ F.zip (F.drop 1), ltL p.1 p.2 = true
  | [], _, p, hp => by simp at hp
  | [a], _, p, hp => by simp at hp
  | a :: b :: F, h, p, hp => by
    have h' := List.pairwise_cons.mp h
    simp only [List.drop_succ_cons, List.drop_zero, List.zip_cons_cons, List.mem_cons] at hp
    rcases hp with rfl | hp
    · exact h'.1 b (List.mem_cons_self ..)
    · exact srt_zip h'.2 p (by simpa using hp)
theorem lt_lots {a b : List Nat} (ha : a ∈ lotsN 6) (hb : b ∈ lotsN 6) (h : ltL a b = true) : cmpD .lt (lotD a) (lotD b) = some true := by
  have e1 := eqOk_lot ha
  have e2 := eqOk_lot hb
  have e3 := alike_lot a b
  unfold cmpD
  simp only [lotD] at *
  simp [ordOk, e1, e2, e3]
  exact h
theorem is_family {t : Nat} {F : List (List Nat)} (h : Fam t F) : G_is_family_value [famD t F] = some (.bool true) := by
  have c0 : G_is_tuple [famD t F, .int 3] = some (.bool true) := by kernel_rfl
  have c1 : evE C_is_family_value (.comp (.call "is_lot_of" (.cons (.var 3) (.cons (.ix (.var 0) (.int 1)) .nil))) (.v 3) (.seq (.ix (.var 0) (.int 2))) [("one", 3)] .no) [.val (famD t F), .no, .no, .no] none = some (.list (F.map fun _ => .bool true), none) := by
    refine ev_comp' lotD (fun _ => .bool true) F ?_ (Nat.le_trans h.len (by decide)) fun a ha => ⟨[.val (famD t F), .no, .no, .val (lotD a)], by simp [asgP, wipeD], ?_⟩
    · simp [famD, ixD, L2.atI, L2.ixN, items]
    · simp [famD, ixD, L2.atI, L2.ixN, is_lot_of t h.lo h.hi a (h.mem ha)]
  have c2 : evE C_is_family_value (.comp (.cmp .lt (.var 1) (.var 2)) (.t (.cons (.v 1) (.cons (.v 2) .nil))) (.zip (.ix (.var 0) (.int 2)) (.sl (.ix (.var 0) (.int 2)) (.yes (.int 1)) .no)) [("near", 1), ("far", 2)] .no) [.val (famD t F), .no, .no, .no] none = some (.list ((F.zip (F.drop 1)).map fun _ => .bool true), none) := by
    refine ev_comp' (fun p : List Nat × List Nat => .tuple [lotD p.1, lotD p.2]) (fun _ => .bool true) (F.zip (F.drop 1)) ?_ ?_ fun p hp => ⟨[.val (famD t F), .val (lotD p.1), .val (lotD p.2), .no], by simp [asgP, asgPs, wipeD], ?_⟩
    · simp [famD, ixD, L2.atI, L2.ixN, items, cutD, asInt, cutL_1]
      rw [← List.map_tail, List.zip_map, List.map_map]
      rfl
    · rw [List.length_zip]; exact Nat.le_trans (Nat.min_le_left _ _) (Nat.le_trans h.len (by decide))
    · have m1 := (List.of_mem_zip (a := p.1) (b := p.2) hp).1
      have m2 := List.mem_of_mem_drop (List.of_mem_zip (a := p.1) (b := p.2) hp).2
      simp [lt_lots (h.mem6 m1) (h.mem6 m2) (srt_zip h.srt p hp)]
  have c3 : (PySem.Str.ofString "family" == PySem.Str.ofString "family") = true := beq_self_eq_true _
  have ht := is_within_t t h.lo h.hi
  have e0 : ixD (famD t F) (.int 0) = some (.str "family") := by kernel_rfl
  have e1 : ixD (famD t F) (.int 1) = some (.int t) := by kernel_rfl
  have e2 : ixD (famD t F) (.int 2) = some (.tuple (F.map lotD)) := by kernel_rfl
  have e3 : cmpD .ne (.str "family") (.str "family") = some false := by kernel_rfl
  simp [G_is_family_value, runF, S_is_family_value, c0, c1, c2, asBool, e0, e1, e2, e3, kdOf, ht, lstOf, notL]
end L91
namespace L91
open PySem L2 Z
theorem want_family {t : Nat} {F : List (List Nat)} (h : Fam t F) : G_want_family [famD t F] = some .none := by
  simp [G_want_family, runF, S_want_family, is_family h, asBool]
theorem lots6_eqv : ((lotsN 6).all fun a => (lotsN 6).all fun b => PyData.eqv (lotD b) (lotD a) == (b == a)) = true := by decide +kernel
theorem lots6_flat : ((lotsN 6).all fun l => flat2 1 (lotD l)) = true := by decide +kernel
theorem in_lots {t : Nat} {F : List (List Nat)} (h : Fam t F) {l : List Nat} (hl : l ∈ lotsN 6) : cmpD .isIn (lotD l) (.tuple (F.map lotD)) = some (F.contains l) := by
  have f1 : eqOk (.tuple (F.map lotD)) = true := eqOk_flat (n := 2) (flat2_tup fun x hx => by
    obtain ⟨a, ha, rfl⟩ := List.mem_map.mp hx
    exact List.all_eq_true.mp lots6_flat a (h.mem6 ha)) (by decide)
  have f2 := eqOk_lot hl
  have f3 : ((F.map lotD).any fun y => PyData.eqv y (lotD l)) = F.contains l := by
    have hm : ∀ a ∈ F, a ∈ lotsN 6 := fun a ha => h.mem6 ha
    clear h f1
    induction F with
    | nil => rfl
    | cons a F ih =>
      have e := List.all_eq_true.mp (List.all_eq_true.mp lots6_eqv l hl) a (hm a (List.mem_cons_self ..))
      rw [beq_iff_eq] at e
      rw [List.map_cons, List.any_cons, e, ih fun b hb => hm b (List.mem_cons_of_mem _ hb), List.contains_cons]
      congr 1
      rw [Bool.eq_iff_iff, beq_iff_eq, beq_iff_eq]
      exact ⟨fun z => z.symm, fun z => z.symm⟩
  simp only [cmpD, f1, f2, Bool.and_self, if_true, f3]
def markM (t : Nat) (F : List (List Nat)) : List Int := (lotsN t).map fun l => if F.contains l then 1 else 0
theorem marks_of {t : Nat} {F : List (List Nat)} (h : Fam t F) : G_marks_of [famD t F] = some (.list ((markM t F).map .int)) := by
  have e1 : ixD (famD t F) (.int 1) = some (.int t) := by kernel_rfl
  have e2 : ixD (famD t F) (.int 2) = some (.tuple (F.map lotD)) := by kernel_rfl
  have ll : (lotsN t).length ≤ maxSize := by
    rw [lots_len t h.hi]
    exact Nat.le_trans (Nat.pow_le_pow_right (by decide) h.hi) (by decide)
  have c1 : evE C_marks_of (.comp (.ite (.cmp .isIn (.var 1) (.ix (.var 0) (.int 2))) (.int 1) (.int 0)) (.v 1) (.seq (.call "all_lots" (.cons (.ix (.var 0) (.int 1)) .nil))) [("lot", 1)] .no) [.val (famD t F), .no] none =
      some (.list ((lotsN t).map fun l => .int (if F.contains l then 1 else 0)), none) := by
    refine ev_comp' lotD (fun l => .int (if F.contains l then 1 else 0)) (lotsN t) ?_ ll fun l hl => ⟨[.val (famD t F), .val (lotD l)], by simp [asgP, wipeD], ?_⟩
    · simp [e1, all_lots t h.lo h.hi, items]
    · have c := in_lots h ((lots_sub t h.hi).subset hl)
      simp only [ev_ite, ev_cmp, ev_var, ev_ix, ev_int, List.getElem?_cons_succ, List.getElem?_cons_zero, Option.bind_eq_bind, Option.bind_some, e2, c, asBool, pure, Option.pure_def]
      cases F.contains l <;> rfl
  simp [G_marks_of, runF, S_marks_of, c1, Z.fresh, notL, isVar, markM]
theorem marks {t : Nat} {F : List (List Nat)} (h : Fam t F) : G_marks [famD t F] = some (.list ((markM t F).map .int)) := by
  simp [G_marks, runF, S_marks, want_family h, marks_of h, isVar, Z.fresh, notL, demote, keeps, keepsS]
/-! sums, any numbers -/
def bit (n t : Nat) : Bool := n / 2 ^ t % 2 == 1
section
variable {α : Type} (ad : α → α → α) (sc : Int → α → α) (z : α)
def passL (dn : Bool) (s : Int) (t : Nat) (l : List α) : List α := (List.range l.length).map fun n => if bit n t == dn then ad (l.getD n z) (sc s (l.getD (if dn then n - 2 ^ t else n + 2 ^ t) z)) else l.getD n z
def passG (dn : Bool) (s : Int) : Nat → List α → List α
  | 0, l => l
  | t + 1, l => passL ad sc z dn s t (passG dn s t l)
end
def passM (dn : Bool) (s : Int) (t : Nat) (l : List Int) : List Int := passG (· + ·) (· * ·) 0 dn s t l
def rowD (t : Nat) (f : Nat → Int) : List D := (List.range (2 ^ t)).map fun i => .int (f i)
def rowI (t : Nat) (f : Nat → Int) : List Int := (List.range (2 ^ t)).map f
set_option maxHeartbeats 0 in
theorem k_sums_down (f : Nat → Int) (t : Nat) (t1 : 1 ≤ t) (t6 : t ≤ 6) : G_sums_down [.int t, .list (rowD t f)] = some (.list ((passM true 1 t (rowI t f)).map .int)) := by
  refine six (p := fun t => G_sums_down [.int t, .list (rowD t f)] = some (.list ((passM true 1 t (rowI t f)).map .int))) ?_ ?_ ?_ ?_ ?_ ?_ t t1 t6 <;> kernel_rfl
end L91
namespace L91
open PySem L2 Z
set_option maxHeartbeats 0 in
theorem k_sums_up (f : Nat → Int) (t : Nat) (t1 : 1 ≤ t) (t6 : t ≤ 6) : G_sums_up [.int t, .list (rowD t f)] = some (.list ((passM false 1 t (rowI t f)).map .int)) := by
  refine six (p := fun t => G_sums_up [.int t, .list (rowD t f)] = some (.list ((passM false 1 t (rowI t f)).map .int))) ?_ ?_ ?_ ?_ ?_ ?_ t t1 t6 <;> kernel_rfl
set_option maxHeartbeats 0 in
theorem k_less_down (f : Nat → Int) (t : Nat) (t1 : 1 ≤ t) (t6 : t ≤ 6) : G_less_down [.int t, .list (rowD t f)] = some (.list ((passM true (-1) t (rowI t f)).map .int)) := by
  refine six (p := fun t => G_less_down [.int t, .list (rowD t f)] = some (.list ((passM true (-1) t (rowI t f)).map .int))) ?_ ?_ ?_ ?_ ?_ ?_ t t1 t6 <;> kernel_rfl
set_option maxHeartbeats 0 in
theorem k_less_up (f : Nat → Int) (t : Nat) (t1 : 1 ≤ t) (t6 : t ≤ 6) : G_less_up [.int t, .list (rowD t f)] = some (.list ((passM false (-1) t (rowI t f)).map .int)) := by
  refine six (p := fun t => G_less_up [.int t, .list (rowD t f)] = some (.list ((passM false (-1) t (rowI t f)).map .int))) ?_ ?_ ?_ ?_ ?_ ?_ t t1 t6 <;> kernel_rfl
set_option maxHeartbeats 0 in
theorem kt_sums_down (f : Nat → Int) (t : Nat) (t1 : 1 ≤ t) (t6 : t ≤ 6) : G_sums_down [.int t, .tuple (rowD t f)] = some (.list ((passM true 1 t (rowI t f)).map .int)) := by
  refine six (p := fun t => G_sums_down [.int t, .tuple (rowD t f)] = some (.list ((passM true 1 t (rowI t f)).map .int))) ?_ ?_ ?_ ?_ ?_ ?_ t t1 t6 <;> kernel_rfl
set_option maxHeartbeats 0 in
theorem kt_sums_up (f : Nat → Int) (t : Nat) (t1 : 1 ≤ t) (t6 : t ≤ 6) : G_sums_up [.int t, .tuple (rowD t f)] = some (.list ((passM false 1 t (rowI t f)).map .int)) := by
  refine six (p := fun t => G_sums_up [.int t, .tuple (rowD t f)] = some (.list ((passM false 1 t (rowI t f)).map .int))) ?_ ?_ ?_ ?_ ?_ ?_ t t1 t6 <;> kernel_rfl
set_option maxHeartbeats 0 in
theorem kt_less_down (f : Nat → Int) (t : Nat) (t1 : 1 ≤ t) (t6 : t ≤ 6) : G_less_down [.int t, .tuple (rowD t f)] = some (.list ((passM true (-1) t (rowI t f)).map .int)) := by
  refine six (p := fun t => G_less_down [.int t, .tuple (rowD t f)] = some (.list ((passM true (-1) t (rowI t f)).map .int))) ?_ ?_ ?_ ?_ ?_ ?_ t t1 t6 <;> kernel_rfl
set_option maxHeartbeats 0 in
theorem kt_less_up (f : Nat → Int) (t : Nat) (t1 : 1 ≤ t) (t6 : t ≤ 6) : G_less_up [.int t, .tuple (rowD t f)] = some (.list ((passM false (-1) t (rowI t f)).map .int)) := by
  refine six (p := fun t => G_less_up [.int t, .tuple (rowD t f)] = some (.list ((passM false (-1) t (rowI t f)).map .int))) ?_ ?_ ?_ ?_ ?_ ?_ t t1 t6 <;> kernel_rfl
end L91
namespace L91
open PySem L2 Z
def isIn (a b : List Nat) : Bool := a.all fun x => b.contains x
theorem any_int (x : Nat) : ∀ b : List Nat, ((b.map fun (i : Nat) => PyData.int (i : Int)).any fun y => PyData.eqv y (.int (x : Int))) = b.contains x
  | [] => rfl
  | a :: b => by
    rw [List.map_cons, List.any_cons, any_int x b, List.contains_cons]
    congr 1
    simp only [PyData.eqv]
    rw [Bool.eq_iff_iff, beq_iff_eq, beq_iff_eq]
    omega
theorem law_is_in (a b : List Nat) (hl : a.length ≤ 64) (hb : eqOk (lotD b) = true) : G_law_is_in [lotD a, lotD b] = some (.bool (isIn a b)) := by
  have c1 : evE C_law_is_in (.comp (.cmp .isIn (.var 2) (.var 1)) (.v 2) (.seq (.var 0)) [("thing", 2)] .no) [.val (lotD a), .val (lotD b), .no] none = some (.list (a.map fun x => .bool (b.contains x)), none) := by
    refine ev_comp' (fun (i : Nat) => .int (i : Int)) (fun x => .bool (b.contains x)) a ?_ (Nat.le_trans hl (by decide)) fun x _ => ⟨[.val (lotD a), .val (lotD b), .val (.int x)], by simp [asgP, wipeD], ?_⟩
    · simp [lotD, items]
    · have e1 : eqOk (.int (x : Int)) = true := eqOk_flat (flat2_int 1 _) (by decide)
      have e2 : cmpD .isIn (.int (x : Int)) (lotD b) = some (b.contains x) := by
        have hb' : eqOk (.tuple (b.map fun (i : Nat) => PyData.int (i : Int))) = true := hb
        simp only [lotD, cmpD, e1, hb', Bool.and_self, if_true, any_int]
      simp [e2]
  simp [G_law_is_in, runF, S_law_is_in, c1, lstOf, isVar, Z.fresh, notL, isIn, List.all_map]
section
variable {α : Type} (ad : α → α → α) (ng : α → α) (z : α)
/-- the law's own sum -/
def stepG (own : List Nat) (dn sg : Bool) (acc : α) (p : List Nat × α) : α := if (if dn then isIn p.1 own else isIn own p.1) then ad acc (if (p.1.length + own.length) % 2 == 1 && sg then ng p.2 else p.2) else acc
def sumG (ls : List (List Nat)) (gs : List α) (own : List Nat) (dn sg : Bool) : α := (ls.zip gs).foldl (stepG ad ng own dn sg) z
end
def sumM (t : Nat) (l : List Int) (own : List Nat) (dn sg : Bool) : Int := sumG (· + ·) (0 - ·) 0 (lotsN t) l own dn sg
theorem lot_short : ∀ l ∈ lotsN 6, l.length ≤ 64 := fun l hl => by
  have := List.all_eq_true.mp (show ((lotsN 6).all fun l => decide (l.length ≤ 64)) = true by decide +kernel) l hl
  simpa using this
theorem len_lot (l : List Nat) : items (lotD l) = some (l.map fun (i : Nat) => .int (i : Int)) := rfl
theorem law_sum {t : Nat} (t6 : t ≤ 6) (l : List Int) {own : List Nat} (ho : own ∈ lotsN t) (dn sg : Bool) : G_law_sum [.list (l.map .int), .list ((lotsN t).map lotD), lotD own, .bool dn, .bool sg] = some (.int (sumM t l own dn sg)) := by
  have s6 : ∀ a ∈ lotsN t, a ∈ lotsN 6 := fun a ha => (lots_sub t t6).subset ha
  have ho6 : own ∈ lotsN 6 := s6 own ho
  have eo := eqOk_lot ho6
  have loop := forL_inv (asg := asgP (.t (.cons (.v 6) (.cons (.v 7) .nil)))) (b := fun δ π => exSs C_law_sum (.cons (.ifS (.ite (.var 3) (.call "_law_is_in" (.cons (.var 6) (.cons (.var 2) .nil))) (.call "_law_is_in" (.cons (.var 2) (.cons (.var 6) .nil))))
      (.cons (.asg 8 (.cmp .eq (.toInt (.mod (.add (.len (.var 6)) (.len (.var 2))) (.int 2))) (.int 1)))
      (.cons (.asg 5 (.add (.var 5) (.ite (.all_ (.cons (.var 8) (.cons (.var 4) .nil))) (.sub (.int 0) (.var 7)) (.var 7))))
      .nil)) .nil) .nil) 3000 δ π)
    (fun p : List Nat × Int => .tuple [lotD p.1, .int p.2]) (fun acc δ => ∃ j6 j7 j8, δ = [.val (.list (l.map .int)), .val (.list ((lotsN t).map lotD)), .val (lotD own), .val (.bool dn), .val (.bool sg), .val (.int acc), j6, j7, j8])
    (stepG (· + ·) (0 - ·) own dn sg) none ((lotsN t).zip l) 0 [.val (.list (l.map .int)), .val (.list ((lotsN t).map lotD)), .val (lotD own), .val (.bool dn), .val (.bool sg), .val (.int 0), .no, .no, .no] ⟨.no, .no, .no, rfl⟩ ?_
  · obtain ⟨δ', k1, j6, j7, j8, rfl⟩ := loop
    have hz : ((lotsN t).map lotD).zip (l.map PyData.int) = ((lotsN t).zip l).map fun p => (lotD p.1, PyData.int p.2) := by rw [List.zip_map]; rfl
    have hi : evI C_law_sum (.zip (.var 1) (.var 0)) [.val (.list (l.map .int)), .val (.list ((lotsN t).map lotD)), .val (lotD own), .val (.bool dn), .val (.bool sg), .val (.int 0), .no, .no, .no] none = some (((lotsN t).zip l).map fun p => .tuple [lotD p.1, .int p.2], none) := by
      simp [items, hz, List.map_map]
    have hf := x_forE (Γ := C_law_sum) (n := 3000) hi rfl k1
    simp [G_law_sum, runF, S_law_sum, demote, demo1, keeps, mkSl, Z.fresh, hf, isVar, notL, sumM, sumG]
  · rintro ⟨a, x⟩ hp acc δ ⟨j6, j7, j8, rfl⟩
    have ha : a ∈ lotsN t := (List.of_mem_zip hp).1
    have i1 := law_is_in a own (lot_short a (s6 a ha)) eo
    have i2 := law_is_in own a (lot_short own ho6) (eqOk_lot (s6 a ha))
    refine ⟨[.val (.list (l.map .int)), .val (.list ((lotsN t).map lotD)), .val (lotD own), .val (.bool dn), .val (.bool sg), .val (.int acc), .val (lotD a), .val (.int x), j8], ?_⟩
    have ev : ∀ i : Int, cmpD .eq (.int i) (.int 1) = some (i == 1) := fun i => by
      have e1 : eqOk (.int i) = true := eqOk_flat (flat2_int 1 _) (by decide)
      have e2 : eqOk (.int 1) = true := eqOk_flat (flat2_int 1 _) (by decide)
      simp [cmpD, e1, e2, PyData.eqv]
    have par : (((a.length : Int) + (own.length : Int)) % 2 == 1) = ((a.length + own.length) % 2 == 1) := by
      rw [Bool.eq_iff_iff, beq_iff_eq, beq_iff_eq]
      omega
    cases hc : (if dn then isIn a own else isIn own a) with
    | false =>
      refine ⟨[.val (.list (l.map .int)), .val (.list ((lotsN t).map lotD)), .val (lotD own), .val (.bool dn), .val (.bool sg), .val (.int acc), .val (lotD a), .val (.int x), j8], by simp [asgP, asgPs], ?_, ⟨.val (lotD a), .val (.int x), j8, by simp [stepG, hc]⟩⟩
      cases dn <;> simp at hc <;> simp [i1, i2, hc, asBool]
    | true =>
      refine ⟨_, by simp [asgP, asgPs], ?_, ⟨.val (lotD a), .val (.int x), .val (.bool ((a.length + own.length) % 2 == 1)), rfl⟩⟩
      cases ho2 : ((a.length + own.length) % 2 == 1) <;> cases dn <;> cases sg <;> simp at hc <;> simp [i1, i2, hc, asBool, len_lot, addD, modD, ev, par, ho2, demote, demo1, keeps, keepsS, peeks, mkSl, Z.fresh, stepG, asInt]
end L91
namespace L91
open PySem L2 Z
/-! the sums, half by half -/
def recM (dn : Bool) (s : Int) : Nat → List Int → List Int
  | 0, l => l
  | t + 1, l => if dn then recM dn s t (l.take (2 ^ t)) ++ List.zipWith (fun x y => y + s * x) (recM dn s t (l.take (2 ^ t))) (recM dn s t (l.drop (2 ^ t)))
    else List.zipWith (fun x y => x + s * y) (recM dn s t (l.take (2 ^ t))) (recM dn s t (l.drop (2 ^ t))) ++ recM dn s t (l.drop (2 ^ t))
theorem take_len {α : Type} {t : Nat} {l : List α} (h : l.length = 2 ^ (t + 1)) : (l.take (2 ^ t)).length = 2 ^ t ∧ (l.drop (2 ^ t)).length = 2 ^ t := by
  rw [Nat.pow_succ] at h
  rw [List.length_take, List.length_drop]
  omega
theorem recM_len (dn : Bool) (s : Int) : ∀ (t : Nat) (l : List Int), l.length = 2 ^ t → (recM dn s t l).length = 2 ^ t
  | 0, l, h => h
  | t + 1, l, h => by
    obtain ⟨h1, h2⟩ := take_len h
    have i1 := recM_len dn s t _ h1
    have i2 := recM_len dn s t _ h2
    cases dn <;> simp [recM, i1, i2, Nat.pow_succ] <;> omega
def term (own : List Nat) (dn sg : Bool) (p : List Nat × Int) : Int := if (if dn then isIn p.1 own else isIn own p.1) then (if (p.1.length + own.length) % 2 == 1 && sg then 0 - p.2 else p.2) else 0
def sumS (t : Nat) (l : List Int) (own : List Nat) (dn sg : Bool) : Int := (((lotsN t).zip l).map (term own dn sg)).sum
theorem fold_sum (own : List Nat) (dn sg : Bool) : ∀ (ps : List (List Nat × Int)) (acc : Int), ps.foldl (stepG (· + ·) (0 - ·) own dn sg) acc = acc + (ps.map (term own dn sg)).sum
  | [], acc => by simp
  | p :: ps, acc => by
    rw [List.foldl_cons, fold_sum own dn sg ps, List.map_cons, List.sum_cons]
    have : stepG (· + ·) (0 - ·) own dn sg acc p = acc + term own dn sg p := by
      unfold stepG term
      cases (if dn then isIn p.1 own else isIn own p.1) <;> simp
    rw [this]; omega
theorem sumM_eq (t : Nat) (l : List Int) (own : List Nat) (dn sg : Bool) : sumM t l own dn sg = sumS t l own dn sg := by
  unfold sumM sumG sumS
  rw [fold_sum]; omega
theorem lots_lt : ∀ (t : Nat) (a : List Nat), a ∈ lotsN t → ∀ x ∈ a, x < t
  | 0, a, h, x, hx => by simp [lotsN] at h; subst h; cases hx
  | t + 1, a, h, x, hx => by
    rw [lotsN, List.mem_append] at h
    rcases h with h | h
    · exact Nat.lt_succ_of_lt (lots_lt t a h x hx)
    · obtain ⟨b, hb, rfl⟩ := List.mem_map.mp h
      rcases List.mem_append.mp hx with hx | hx
      · exact Nat.lt_succ_of_lt (lots_lt t b hb x hx)
      · simp at hx; omega
theorem not_has {t : Nat} {a : List Nat} (h : a ∈ lotsN t) : a.contains t = false := by
  rw [Bool.eq_false_iff]
  intro z
  have := lots_lt t a h t (by simpa using z)
  omega
theorem in1 {t : Nat} (a b : List Nat) (hb : b.contains t = false) : isIn (a ++ [t]) b = false := by
  have hb' : t ∉ b := by simpa using hb
  simp [isIn, hb']
theorem in2 {t : Nat} {a b : List Nat} (ha : a.contains t = false) : isIn a (b ++ [t]) = isIn a b := by
  have ha' : t ∉ a := by simpa using ha
  unfold isIn
  rw [Bool.eq_iff_iff, List.all_eq_true, List.all_eq_true]
  refine forall_congr' fun x => forall_congr' fun hx => ?_
  have : x ≠ t := fun z => ha' (z ▸ hx)
  simp [this]
theorem in3 {t : Nat} {a b : List Nat} (ha : a.contains t = false) : isIn (a ++ [t]) (b ++ [t]) = isIn a b := by
  have h2 := in2 (b := b) ha
  unfold isIn at *
  rw [List.all_append, h2]
  simp
def sgn (sg : Bool) : Int := if sg then -1 else 1
theorem flip1 (n : Nat) : ((n + 1) % 2 == 1) = !(n % 2 == 1) := by
  rw [Bool.eq_iff_iff]; simp; omega
theorem term_flip {own lot own' lot' : List Nat} {dn sg : Bool} {x : Int} (hi : (if dn then isIn lot' own' else isIn own' lot') = (if dn then isIn lot own else isIn own lot)) (hl : lot'.length + own'.length = lot.length + own.length + 1) :
    term own' dn sg (lot', x) = sgn sg * term own dn sg (lot, x) := by
  unfold term
  simp only [hi, hl, flip1]
  cases (if dn then isIn lot own else isIn own lot) <;> cases sg <;> cases ((lot.length + own.length) % 2 == 1) <;> simp [sgn]
theorem term_same {own lot own' lot' : List Nat} {dn sg : Bool} {x : Int} (hi : (if dn then isIn lot' own' else isIn own' lot') = (if dn then isIn lot own else isIn own lot)) (hl : (lot'.length + own'.length) % 2 = (lot.length + own.length) % 2) :
    term own' dn sg (lot', x) = term own dn sg (lot, x) := by
  unfold term
  simp only [hi, hl]
theorem term_zero {own lot : List Nat} {dn sg : Bool} {x : Int} (hi : (if dn then isIn lot own else isIn own lot) = false) : term own dn sg (lot, x) = 0 := by
  unfold term; simp only [hi]; rfl
theorem sum_mul {α : Type} (f g : α → Int) (c : Int) : ∀ l : List α, (∀ a ∈ l, f a = c * g a) → (l.map f).sum = c * (l.map g).sum
  | [], _ => by simp
  | a :: l, h => by
    rw [List.map_cons, List.map_cons, List.sum_cons, List.sum_cons, h a (List.mem_cons_self ..), sum_mul f g c l fun b hb => h b (List.mem_cons_of_mem _ hb), Int.mul_add]
theorem sum_split {t : Nat} {l : List Int} (h : l.length = 2 ^ (t + 1)) (t6 : t ≤ 6) (own : List Nat) (dn sg : Bool) : sumS (t + 1) l own dn sg =
    (((lotsN t).zip (l.take (2 ^ t))).map (term own dn sg)).sum + (((lotsN t).zip (l.drop (2 ^ t))).map fun p => term own dn sg (p.1 ++ [t], p.2)).sum := by
  obtain ⟨h1, h2⟩ := take_len h
  have e : (lotsN (t + 1)).zip l = (lotsN t).zip (l.take (2 ^ t)) ++ ((lotsN t).map fun a => a ++ [t]).zip (l.drop (2 ^ t)) := by
    rw [lotsN]
    conv => lhs; rw [← List.take_append_drop (2 ^ t) l]
    exact List.zip_append (by rw [lots_len t t6, h1])
  unfold sumS
  rw [e, List.map_append, List.sum_append]
  congr 2
  rw [List.zip_map_left, List.map_map]
  rfl
theorem recM_sum (dn sg : Bool) : ∀ (t : Nat) (l : List Int), t ≤ 6 → l.length = 2 ^ t → recM dn (sgn sg) t l = (lotsN t).map fun own => sumS t l own dn sg
  | 0, l, _, h => by
    obtain ⟨x, rfl⟩ : ∃ x, l = [x] := List.length_eq_one_iff.mp h
    simp [recM, lotsN, sumS, term, isIn]
  | t + 1, l, t6, h => by
    obtain ⟨h1, h2⟩ := take_len h
    have i1 := recM_sum dn sg t _ (by omega) h1
    have i2 := recM_sum dn sg t _ (by omega) h2
    have key : ∀ own ∈ lotsN t, (sumS (t + 1) l own dn sg = if dn then sumS t (l.take (2 ^ t)) own dn sg else sumS t (l.take (2 ^ t)) own dn sg + sgn sg * sumS t (l.drop (2 ^ t)) own dn sg) ∧
        (sumS (t + 1) l (own ++ [t]) dn sg = if dn then sumS t (l.drop (2 ^ t)) own dn sg + sgn sg * sumS t (l.take (2 ^ t)) own dn sg else sumS t (l.drop (2 ^ t)) own dn sg) := fun own ho => by
      have no := not_has ho
      have mem : ∀ (q : List Int) (p : List Nat × Int), p ∈ (lotsN t).zip q → p.1.contains t = false := fun q p hp => not_has (List.of_mem_zip (a := p.1) (b := p.2) hp).1
      refine ⟨?_, ?_⟩
      · rw [sum_split h (by omega)]
        cases dn with
        | true =>
          rw [if_pos rfl, sum_mul _ (term own true sg) 0 ((lotsN t).zip (l.drop (2 ^ t))) fun p hp => by rw [Int.zero_mul]; exact term_zero (in1 p.1 own no)]
          unfold sumS; omega
        | false =>
          rw [if_neg (by decide), sum_mul _ (term own false sg) (sgn sg) ((lotsN t).zip (l.drop (2 ^ t))) fun p hp => term_flip (by simp only [Bool.false_eq_true, if_false]; exact in2 no) (by simp; omega)]
          rfl
      · rw [sum_split h (by omega)]
        cases dn with
        | true =>
          rw [if_pos rfl, sum_mul (term (own ++ [t]) true sg) (term own true sg) (sgn sg) ((lotsN t).zip (l.take (2 ^ t))) fun p hp => term_flip (by simp only [if_true]; exact in2 (mem _ p hp)) (by simp; omega),
            sum_mul _ (term own true sg) 1 ((lotsN t).zip (l.drop (2 ^ t))) fun p hp => by rw [Int.one_mul]; exact term_same (by simp only [if_true]; exact in3 (mem _ p hp)) (by simp; omega)]
          unfold sumS; omega
        | false =>
          rw [if_neg (by decide), sum_mul (term (own ++ [t]) false sg) (term own false sg) 0 ((lotsN t).zip (l.take (2 ^ t))) fun p hp => by rw [Int.zero_mul]; exact term_zero (by simp only [Bool.false_eq_true, if_false]; exact in1 own p.1 (mem _ p hp)),
            sum_mul _ (term own false sg) 1 ((lotsN t).zip (l.drop (2 ^ t))) fun p hp => by rw [Int.one_mul]; exact term_same (by simp only [Bool.false_eq_true, if_false]; exact in3 no) (by simp; omega)]
          unfold sumS; omega
    rw [recM, i1, i2, lotsN, List.map_append, List.map_map]
    cases dn with
    | true =>
      rw [if_pos rfl, List.zipWith_map, List.zipWith_self]
      congr 1
      · exact List.map_congr_left fun own ho => by rw [(key own ho).1, if_pos rfl]
      · exact List.map_congr_left fun own ho => by simp only [Function.comp]; rw [(key own ho).2, if_pos rfl]
    | false =>
      rw [if_neg (by decide), List.zipWith_map, List.zipWith_self]
      congr 1
      · exact List.map_congr_left fun own ho => by rw [(key own ho).1, if_neg (by decide)]
      · exact List.map_congr_left fun own ho => by simp only [Function.comp]; rw [(key own ho).2, if_neg (by decide)]
end L91
namespace L91
open PySem L2 Z
theorem zip4 (s c : Int) : ∀ (xa xb ya yb : List Int), List.zipWith (fun x y => y + s * x) (List.zipWith (fun x y => x + c * y) xa xb) (List.zipWith (fun x y => x + c * y) ya yb) =
    List.zipWith (fun x y => x + c * y) (List.zipWith (fun x y => y + s * x) xa ya) (List.zipWith (fun x y => y + s * x) xb yb)
  | [], _, _, _ => by simp
  | _ :: _, [], _, _ => by simp
  | _ :: _, _ :: _, [], _ => by simp
  | _ :: _, _ :: _, _ :: _, [] => by simp
  | a :: xa, b :: xb, d :: ya, e :: yb => by
    simp only [List.zipWith_cons_cons, zip4 s c xa xb ya yb]
    congr 1
    rw [Int.mul_add, Int.mul_add, Int.mul_left_comm s c b]; omega
theorem zip_sw (s : Int) (a b : List Int) : List.zipWith (fun x y => x + s * y) a b = List.zipWith (fun x y => y + s * x) b a := List.zipWith_comm ..
theorem zip4' (s c : Int) (xa xb ya yb : List Int) : List.zipWith (fun x y => x + s * y) (List.zipWith (fun x y => x + c * y) xa xb) (List.zipWith (fun x y => x + c * y) ya yb) =
    List.zipWith (fun x y => x + c * y) (List.zipWith (fun x y => x + s * y) xa ya) (List.zipWith (fun x y => x + s * y) xb yb) := by
  rw [zip_sw s, zip4, zip_sw s xa, zip_sw s xb]
theorem recM_lin (dn : Bool) (s c : Int) : ∀ (t : Nat) (a b : List Int), a.length = 2 ^ t → b.length = 2 ^ t → recM dn s t (List.zipWith (fun x y => x + c * y) a b) = List.zipWith (fun x y => x + c * y) (recM dn s t a) (recM dn s t b)
  | 0, a, b, _, _ => rfl
  | t + 1, a, b, ha, hb => by
    obtain ⟨a1, a2⟩ := take_len ha
    obtain ⟨b1, b2⟩ := take_len hb
    have i1 := recM_lin dn s c t _ _ a1 b1
    have i2 := recM_lin dn s c t _ _ a2 b2
    have l1 := recM_len dn s t _ a1
    have l2 := recM_len dn s t _ b1
    have l3 := recM_len dn s t _ a2
    have l4 := recM_len dn s t _ b2
    simp only [recM, List.take_zipWith, List.drop_zipWith, i1, i2]
    cases dn with
    | true =>
      simp only [if_true]
      rw [List.zipWith_append (by rw [l1, l2]), zip4]
    | false =>
      simp only [Bool.false_eq_true, if_false]
      rw [List.zipWith_append (by simp [l1, l2, l3, l4]), zip4']
theorem zip_back (s : Int) : ∀ (a b : List Int), a.length = b.length → List.zipWith (fun x y => y + (-s) * x) a (List.zipWith (fun x y => y + s * x) a b) = b
  | [], [], _ => rfl
  | [], _ :: _, h => by simp at h
  | _ :: _, [], h => by simp at h
  | a :: as, b :: bs, h => by
    simp only [List.zipWith_cons_cons, zip_back s as bs (by simpa using h)]
    congr 1
    rw [Int.neg_mul]; omega
theorem recM_back (dn : Bool) (s : Int) : ∀ (t : Nat) (l : List Int), l.length = 2 ^ t → recM dn (-s) t (recM dn s t l) = l
  | 0, l, _ => rfl
  | t + 1, l, h => by
    obtain ⟨h1, h2⟩ := take_len h
    have i1 := recM_back dn s t _ h1
    have i2 := recM_back dn s t _ h2
    have l1 := recM_len dn s t _ h1
    have l2 := recM_len dn s t _ h2
    cases dn with
    | true =>
      have e : recM true s (t + 1) l = recM true s t (l.take (2 ^ t)) ++ List.zipWith (fun x y => y + s * x) (recM true s t (l.take (2 ^ t))) (recM true s t (l.drop (2 ^ t))) := rfl
      rw [e]
      simp only [recM, if_true]
      rw [List.take_left' l1, List.drop_left' l1, i1, ← zip_sw s, recM_lin true (-s) s t _ _ l2 l1, i1, i2, zip_sw s, zip_back s _ _ (by rw [h1, h2])]
      exact List.take_append_drop _ _
    | false =>
      have e : recM false s (t + 1) l = List.zipWith (fun x y => x + s * y) (recM false s t (l.take (2 ^ t))) (recM false s t (l.drop (2 ^ t))) ++ recM false s t (l.drop (2 ^ t)) := rfl
      have lz : (List.zipWith (fun x y => x + s * y) (recM false s t (l.take (2 ^ t))) (recM false s t (l.drop (2 ^ t)))).length = 2 ^ t := by simp [l1, l2]
      rw [e]
      simp only [recM, Bool.false_eq_true, if_false]
      rw [List.take_left' lz, List.drop_left' lz, i2, recM_lin false (-s) s t _ _ l1 l2, i1, i2, zip_sw (-s), zip_sw s, zip_back s _ _ (by rw [h1, h2])]
      exact List.take_append_drop _ _
/-! the marks' sums -/
theorem sum_count {α : Type} (p q : α → Bool) : ∀ l : List α, (l.map fun a => if p a then (if q a then (1 : Int) else 0) else 0).sum = ((l.filter fun a => p a && q a).length : Int)
  | [] => rfl
  | a :: l => by
    rw [List.map_cons, List.sum_cons, sum_count p q l, List.filter_cons]
    cases p a <;> cases q a <;> simp <;> omega
theorem fam_perm {t : Nat} {F : List (List Nat)} (h : Fam t F) : F.Perm ((lotsN t).filter fun a => F.contains a) := by
  obtain ⟨sub, h1, h2⟩ := h.ex
  have nd : (lotsN t).Nodup := (lots_sub t h.hi).nodup lots6_nodup
  have nF : F.Nodup := h2.nodup_iff.mpr (h1.nodup nd)
  refine (List.perm_ext_iff_of_nodup nF (nd.filter _)).mpr fun a => ?_
  rw [List.mem_filter]
  simp only [List.contains_iff_mem]
  exact ⟨fun ha => ⟨h.mem ha, by simpa using ha⟩, fun ha => by simpa using ha.2⟩
theorem zip_map_self {α β : Type} (g : α → β) : ∀ l : List α, l.zip (l.map g) = l.map fun a => (a, g a)
  | [] => rfl
  | a :: l => by simp [zip_map_self g l]
theorem marks_sum {t : Nat} {F : List (List Nat)} (h : Fam t F) (own : List Nat) (dn : Bool) : sumS t (markM t F) own dn false = ((F.filter fun a => if dn then isIn a own else isIn own a).length : Int) := by
  have e : ((lotsN t).zip (markM t F)).map (term own dn false) = (lotsN t).map fun a => if (if dn then isIn a own else isIn own a) then (if F.contains a then (1 : Int) else 0) else 0 := by
    unfold markM
    rw [zip_map_self, List.map_map]
    refine List.map_congr_left fun a _ => ?_
    simp [term]
  unfold sumS
  rw [e, sum_count, (fam_perm h).filter _ |>.length_eq, List.filter_filter]
end L91
namespace L91
open PySem L2 Z
set_option maxHeartbeats 0 in
theorem pass_rec (s : Int) (f : Nat → Int) (dn : Bool) (t : Nat) (t1 : 1 ≤ t) (t6 : t ≤ 6) : passM dn s t (rowI t f) = recM dn s t (rowI t f) := by
  refine six (p := fun t => passM dn s t (rowI t f) = recM dn s t (rowI t f)) ?_ ?_ ?_ ?_ ?_ ?_ t t1 t6 <;> cases dn <;> kernel_rfl
theorem row_of {t : Nat} {l : List Int} (h : l.length = 2 ^ t) : rowI t (fun i => l.getD i 0) = l := by
  apply List.ext_getElem
  · simp [rowI, h]
  · intro i h1 h2
    simp [rowI, List.getD, h2]
theorem rowD_of {t : Nat} {l : List Int} (h : l.length = 2 ^ t) : rowD t (fun i => l.getD i 0) = l.map .int := by
  have : rowD t (fun i => l.getD i 0) = (rowI t (fun i => l.getD i 0)).map .int := by simp [rowD, rowI, List.map_map]
  rw [this, row_of h]
theorem l_sums_down {t : Nat} (t1 : 1 ≤ t) (t6 : t ≤ 6) {l : List Int} (h : l.length = 2 ^ t) : G_sums_down [.int t, .list (l.map .int)] = some (.list ((recM true 1 t l).map .int)) := by
  have := k_sums_down (fun i => l.getD i 0) t t1 t6
  rwa [pass_rec _ _ _ _ t1 t6, rowD_of h, row_of h] at this
theorem tl_sums_down {t : Nat} (t1 : 1 ≤ t) (t6 : t ≤ 6) {l : List Int} (h : l.length = 2 ^ t) : G_sums_down [.int t, .tuple (l.map .int)] = some (.list ((recM true 1 t l).map .int)) := by
  have := kt_sums_down (fun i => l.getD i 0) t t1 t6
  rwa [pass_rec _ _ _ _ t1 t6, rowD_of h, row_of h] at this
theorem l_sums_up {t : Nat} (t1 : 1 ≤ t) (t6 : t ≤ 6) {l : List Int} (h : l.length = 2 ^ t) : G_sums_up [.int t, .list (l.map .int)] = some (.list ((recM false 1 t l).map .int)) := by
  have := k_sums_up (fun i => l.getD i 0) t t1 t6
  rwa [pass_rec _ _ _ _ t1 t6, rowD_of h, row_of h] at this
theorem tl_sums_up {t : Nat} (t1 : 1 ≤ t) (t6 : t ≤ 6) {l : List Int} (h : l.length = 2 ^ t) : G_sums_up [.int t, .tuple (l.map .int)] = some (.list ((recM false 1 t l).map .int)) := by
  have := kt_sums_up (fun i => l.getD i 0) t t1 t6
  rwa [pass_rec _ _ _ _ t1 t6, rowD_of h, row_of h] at this
theorem l_less_down {t : Nat} (t1 : 1 ≤ t) (t6 : t ≤ 6) {l : List Int} (h : l.length = 2 ^ t) : G_less_down [.int t, .list (l.map .int)] = some (.list ((recM true (-1) t l).map .int)) := by
  have := k_less_down (fun i => l.getD i 0) t t1 t6
  rwa [pass_rec _ _ _ _ t1 t6, rowD_of h, row_of h] at this
theorem tl_less_down {t : Nat} (t1 : 1 ≤ t) (t6 : t ≤ 6) {l : List Int} (h : l.length = 2 ^ t) : G_less_down [.int t, .tuple (l.map .int)] = some (.list ((recM true (-1) t l).map .int)) := by
  have := kt_less_down (fun i => l.getD i 0) t t1 t6
  rwa [pass_rec _ _ _ _ t1 t6, rowD_of h, row_of h] at this
theorem l_less_up {t : Nat} (t1 : 1 ≤ t) (t6 : t ≤ 6) {l : List Int} (h : l.length = 2 ^ t) : G_less_up [.int t, .list (l.map .int)] = some (.list ((recM false (-1) t l).map .int)) := by
  have := k_less_up (fun i => l.getD i 0) t t1 t6
  rwa [pass_rec _ _ _ _ t1 t6, rowD_of h, row_of h] at this
theorem tl_less_up {t : Nat} (t1 : 1 ≤ t) (t6 : t ≤ 6) {l : List Int} (h : l.length = 2 ^ t) : G_less_up [.int t, .tuple (l.map .int)] = some (.list ((recM false (-1) t l).map .int)) := by
  have := kt_less_up (fun i => l.getD i 0) t t1 t6
  rwa [pass_rec _ _ _ _ t1 t6, rowD_of h, row_of h] at this
end L91
namespace L91
open PySem L2 Z
theorem mem_zipWith {α β γ : Type} {f : α → β → γ} : ∀ {c : List α} {d : List β} {x : γ}, x ∈ List.zipWith f c d → ∃ a ∈ c, ∃ b ∈ d, x = f a b
  | [], _, x, h => by simp at h
  | _ :: _, [], x, h => by simp at h
  | a :: c, b :: d, x, h => by
    rw [List.zipWith_cons_cons] at h
    rcases List.mem_cons.mp h with rfl | h
    · exact ⟨a, List.mem_cons_self .., b, List.mem_cons_self .., rfl⟩
    · obtain ⟨a', h1, b', h2, h3⟩ := mem_zipWith h
      exact ⟨a', List.mem_cons_of_mem _ h1, b', List.mem_cons_of_mem _ h2, h3⟩
theorem recM_bound (dn : Bool) {s : Int} (hs : s = 1 ∨ s = -1) (M : Nat) : ∀ (t : Nat) (l : List Int), (∀ x ∈ l, x.natAbs ≤ M) → ∀ x ∈ recM dn s t l, x.natAbs ≤ 2 ^ t * M
  | 0, l, h => by simpa [recM] using h
  | t + 1, l, h => by
    have i1 := recM_bound dn hs M t (l.take (2 ^ t)) fun x hx => h x (List.mem_of_mem_take hx)
    have i2 := recM_bound dn hs M t (l.drop (2 ^ t)) fun x hx => h x (List.mem_of_mem_drop hx)
    have e : 2 ^ (t + 1) * M = 2 ^ t * M + 2 ^ t * M := by rw [Nat.pow_succ, Nat.mul_assoc, Nat.mul_comm 2 M, ← Nat.mul_assoc]; omega
    generalize 2 ^ t * M = B at *
    intro x hx
    rw [e]
    cases dn with
    | true =>
      simp only [recM, if_true, List.mem_append] at hx
      rcases hx with hx | hx
      · have := i1 x hx; omega
      · obtain ⟨a, ha, b, hb, rfl⟩ := mem_zipWith hx
        have h1 := i1 a ha
        have h2 := i2 b hb
        rcases hs with rfl | rfl <;> omega
    | false =>
      simp only [recM, Bool.false_eq_true, if_false, List.mem_append] at hx
      rcases hx with hx | hx
      · obtain ⟨a, ha, b, hb, rfl⟩ := mem_zipWith hx
        have h1 := i1 a ha
        have h2 := i2 b hb
        rcases hs with rfl | rfl <;> omega
      · have := i2 x hx; omega
theorem eqv_ints : ∀ l : List Int, PyData.eqv (.list (l.map .int)) (.list (l.map .int)) = true := by
  have key : ∀ l : List Int, PyData.eqvAll (l.map .int) (l.map .int) = true := fun l => by
    induction l with
    | nil => rfl
    | cons a l ih => simp [PyData.eqvAll, PyData.eqv, ih]
  intro l
  simpa [PyData.eqv] using key l
theorem eqOk_ints (l : List Int) : flat2 1 (.list (l.map .int)) = true := flat2_lst fun x hx => by
  obtain ⟨i, _, rfl⟩ := List.mem_map.mp hx
  exact flat2_int 0 i
theorem rep_ints {l : List Int} {k : Nat} (h : ∀ x ∈ l, x.natAbs < 10 ^ 24) (hk : l.length ≤ k) : Rep (.list (l.map .int)) 1 k := by
  have := Rep.lst (n := 0) (m := 0) (k := k) (xs := l.map .int) (fun x hx => by
    obtain ⟨i, hi, rfl⟩ := List.mem_map.mp hx
    exact Rep.int (h i hi)) (by simpa using hk)
  simpa using this
theorem x_step {Γ : Tab} {s : S} {ss : Ss} {n : Nat} {δ δ1 : Dl} {π π1 : Pot} (h : exS Γ s n δ π = some (.nx δ1 π1)) : exSs Γ (.cons s ss) n δ π = exSs Γ ss n δ1 π1 := by
  rw [x_cons, h]; rfl
/-- the slots of the law's check -/
def dl (a1 a2 a3 a4 a5 a6 a7 a8 a9 a10 a11 : Sl) : Dl := [.pot, a1, a2, a3, a4, a5, a6, a7, a8, a9, a10, a11, .no, .no, .no, .no, .no]
def L (l : List Int) : D := .list (l.map .int)
end L91
namespace L91
open PySem L2 Z
def duesE : E := .comp (.comp (.call "_law_sum" (.cons (.var 4) (.cons (.var 3) (.cons (.var 14) (.cons (.var 12) (.cons (.var 13) .nil)))))) (.v 14) (.seq (.var 3)) [("own", 14)] .no) (.t (.cons (.v 12) (.cons (.v 13) .nil))) (.seq (.lst (.cons (.tup (.cons (.bl true) (.cons (.bl false) .nil))) (.cons (.tup (.cons (.bl false) (.cons (.bl false) .nil))) (.cons (.tup (.cons (.bl true) (.cons (.bl true) .nil))) (.cons (.tup (.cons (.bl false) (.cons (.bl true) .nil))) .nil)))))) [("is_down", 12), ("is_signed", 13)] .no
section
variable {t : Nat} {F : List (List Nat)} (h : Fam t F) {l : List Int} (hl : l.length = 2 ^ t) (xy : Int × Int) (sh : D)
include h hl
theorem ev_dues : evE C_law_right duesE (dl (.val (famD t F)) (.val (.int t)) (.val (.list ((lotsN t).map lotD))) (.val (L l)) (.val sh) .no .no .no .no .no .no) (some xy) =
    some (.list [L (recM true 1 t l), L (recM false 1 t l), L (recM true (-1) t l), L (recM false (-1) t l)], some xy) := by
  have ll : (lotsN t).length ≤ maxSize := by
    rw [lots_len t h.hi]
    exact Nat.le_trans (Nat.pow_le_pow_right (by decide) h.hi) (by decide)
  have e : ∀ dn sg, (lotsN t).map (fun own => PyData.int (sumM t l own dn sg)) = (recM dn (sgn sg) t l).map .int := fun dn sg => by
    rw [recM_sum dn sg t l h.hi hl, List.map_map]
    refine List.map_congr_left fun own _ => ?_
    simp only [Function.comp, sumM_eq]
  have outer := ev_comp' (Γ := C_law_right) (δ := dl (.val (famD t F)) (.val (.int t)) (.val (.list ((lotsN t).map lotD))) (.val (L l)) (.val sh) .no .no .no .no .no .no) (π := some xy) (pt := .t (.cons (.v 12) (.cons (.v 13) .nil)))
    (elt := .comp (.call "_law_sum" (.cons (.var 4) (.cons (.var 3) (.cons (.var 14) (.cons (.var 12) (.cons (.var 13) .nil)))))) (.v 14) (.seq (.var 3)) [("own", 14)] .no)
    (it := .seq (.lst (.cons (.tup (.cons (.bl true) (.cons (.bl false) .nil))) (.cons (.tup (.cons (.bl false) (.cons (.bl false) .nil))) (.cons (.tup (.cons (.bl true) (.cons (.bl true) .nil))) (.cons (.tup (.cons (.bl false) (.cons (.bl true) .nil))) .nil)))))) (own := [("is_down", 12), ("is_signed", 13)])
    (fun p : Bool × Bool => .tuple [.bool p.1, .bool p.2]) (fun p => .list ((lotsN t).map fun own => .int (sumM t l own p.1 p.2))) [(true, false), (false, false), (true, true), (false, true)] (by simp [items]) (by decide) (fun p hp => by
      refine ⟨[.pot, .val (famD t F), .val (.int t), .val (.list ((lotsN t).map lotD)), .val (L l), .val sh, .no, .no, .no, .no, .no, .no, .val (.bool p.1), .val (.bool p.2), .no, .no, .no], by simp [asgP, asgPs, wipeD, dl], ?_⟩
      refine ev_comp' lotD (fun own => .int (sumM t l own p.1 p.2)) (lotsN t) (by simp [items]) ll fun own ho => ⟨[.pot, .val (famD t F), .val (.int t), .val (.list ((lotsN t).map lotD)), .val (L l), .val sh, .no, .no, .no, .no, .no, .no, .val (.bool p.1), .val (.bool p.2), .val (lotD own), .no, .no], by simp [asgP, wipeD], ?_⟩
      have := law_sum h.hi l ho p.1 p.2
      simp [L, this])
  unfold duesE
  rw [outer]
  simp only [List.map_cons, List.map_nil, e]
  rfl
/-- how many lots of the family are within each lot, or have it within -/
theorem ev_near (dn : Bool) (a6 a7 a8 a9 a10 a11 : Sl) (c : E) (hc : c = if dn then .call "_law_is_in" (.cons (.var 16) (.cons (.var 15) .nil)) else .call "_law_is_in" (.cons (.var 15) (.cons (.var 16) .nil))) :
    evE C_law_right (.comp (.len (.comp (.var 16) (.v 16) (.seq (.ix (.var 1) (.int 2))) [("one", 16)] (.yes c))) (.v 15) (.seq (.var 3)) [("lot", 15)] .no)
      (dl (.val (famD t F)) (.val (.int t)) (.val (.list ((lotsN t).map lotD))) (.val (L l)) (.val sh) a6 a7 a8 a9 a10 a11) (some xy) = some (L (recM dn 1 t (markM t F)), some xy) := by
  have ll : (lotsN t).length ≤ maxSize := by
    rw [lots_len t h.hi]
    exact Nat.le_trans (Nat.pow_le_pow_right (by decide) h.hi) (by decide)
  have e2 : ixD (famD t F) (.int 2) = some (.tuple (F.map lotD)) := by kernel_rfl
  have e : (lotsN t).map (fun own => PyData.int ((F.filter fun a => if dn then isIn a own else isIn own a).length : Int)) = (recM dn 1 t (markM t F)).map .int := by
    have := recM_sum dn false t (markM t F) h.hi (by simp [markM, lots_len t h.hi])
    rw [show (1 : Int) = sgn false from rfl, this, List.map_map]
    refine List.map_congr_left fun own _ => ?_
    simp only [Function.comp, marks_sum h]
  rw [ev_comp' lotD (fun own => .int ((F.filter fun a => if dn then isIn a own else isIn own a).length : Int)) (lotsN t) (by simp [dl, items]) ll fun own ho => by
    refine ⟨[.pot, .val (famD t F), .val (.int t), .val (.list ((lotsN t).map lotD)), .val (L l), .val sh, a6, a7, a8, a9, a10, a11, .no, .no, .no, .val (lotD own), .no], by simp [asgP, wipeD, dl], ?_⟩
    have inner := ev_comp (Γ := C_law_right) (δ := [.pot, .val (famD t F), .val (.int t), .val (.list ((lotsN t).map lotD)), .val (L l), .val sh, a6, a7, a8, a9, a10, a11, .no, .no, .no, .val (lotD own), .no]) (π := some xy) (elt := .var 16) (pt := .v 16) (it := .seq (.ix (.var 1) (.int 2))) (own := [("one", 16)]) (cond := .yes c)
      lotD (fun a => if dn then isIn a own else isIn own a) lotD F (by simp [e2, items]) (Nat.le_trans h.len (by decide)) fun a ha => by
        refine ⟨[.pot, .val (famD t F), .val (.int t), .val (.list ((lotsN t).map lotD)), .val (L l), .val sh, a6, a7, a8, a9, a10, a11, .no, .no, .no, .val (lotD own), .val (lotD a)], by simp [asgP, wipeD], ?_, fun _ => by simp⟩
        have o6 := (lots_sub t h.hi).subset ho
        have i1 := law_is_in a own (lot_short a (h.mem6 ha)) (eqOk_lot o6)
        have i2 := law_is_in own a (lot_short own o6) (eqOk_lot (h.mem6 ha))
        subst hc
        cases dn <;> simp [i1, i2, asBool]
    simp [inner, items]]
  rw [e]; rfl
end
end L91
namespace L91
open PySem L2 Z
theorem law_right (xy : Int × Int) (ok : PotOk xy) : ∃ xy', G_law_right [] xy = some (.bool true, xy') := by
  obtain ⟨t, F, xy1, e1, h, ok1⟩ := law_family xy ok
  obtain ⟨l, xy2, e2, hl, hb, ok2⟩ := law_numbers t h.lo h.hi xy1 ok1
  have hb6 : ∀ x ∈ l, x.natAbs ≤ 1000000 := fun x hx => by have := hb x hx; omega
  have l64 : l.length ≤ 64 := by rw [hl]; exact Nat.pow_le_pow_right (n := 2) (by decide) h.hi
  have big : ∀ dn s, (s = 1 ∨ s = -1) → ∀ x ∈ recM dn s t l, x.natAbs < 10 ^ 24 := fun dn s hs x hx => by
    have := recM_bound dn hs 1000000 t l hb6 x hx
    have p : 2 ^ t ≤ 2 ^ 6 := Nat.pow_le_pow_right (by decide) h.hi
    have : x.natAbs ≤ 2 ^ 6 * 1000000 := Nat.le_trans this (Nat.mul_le_mul_right _ p)
    omega
  have len : ∀ dn s, (recM dn s t l).length = 2 ^ t := fun dn s => recM_len dn s t l hl
  have len64 : ∀ dn s, (recM dn s t l).length ≤ 64 := fun dn s => by rw [len]; rw [hl] at l64; exact l64
  have repL : Rep (L l) 1 64 := rep_ints (fun x hx => by have := hb6 x hx; omega) l64
  have repR : ∀ dn s, (s = 1 ∨ s = -1) → Rep (L (recM dn s t l)) 1 64 := fun dn s hs => rep_ints (big dn s hs) (len64 dn s)
  generalize hR1 : recM true 1 t l = R1 at *
  generalize hR2 : recM false 1 t l = R2 at *
  generalize hR3 : recM true (-1) t l = R3 at *
  generalize hR4 : recM false (-1) t l = R4 at *
  have r1 : reprOk (L l) = true := repL.ok (by decide) (by decide)
  have rep4 : Rep (.list [L R1, L R2, L R3, L R4]) 2 260 := Rep.lst (n := 1) (m := 64) (k := 4) (fun x hx => by
    simp only [List.mem_cons, List.not_mem_nil, or_false] at hx
    rcases hx with rfl | rfl | rfl | rfl
    · exact hR1 ▸ repR true 1 (.inl rfl)
    · exact hR2 ▸ repR false 1 (.inl rfl)
    · exact hR3 ▸ repR true (-1) (.inr rfl)
    · exact hR4 ▸ repR false (-1) (.inr rfl)) (by simp)
  have r8 : reprOk (.list [.list [L R1, L R2, L R3, L R4], .list [L R1, L R2, L R3, L R4]]) = true := (Rep.lst (n := 2) (m := 260) (k := 2) (fun x hx => by
    simp only [List.mem_cons, List.not_mem_nil, or_false] at hx
    rcases hx with rfl | rfl <;> exact rep4) (by simp)).ok (by decide) (by decide)
  have n1 : ∀ x : Str, cmpD .ne (.str x) (.str x) = some false := fun x => by simp [cmpD]
  have n2 : ∀ d : D, flat2 2 d = true → (∀ x, d ≠ .str x) → cmpD .ne d d = some false := fun d hd hs => by
    have q := eqOk_flat hd (by decide)
    have c : d.canLay0 = true := by simp only [flat2, Bool.and_eq_true] at hd; exact hd.1
    cases d <;> first | exact absurd rfl (hs _) | simp [cmpD, q, SeqAt.eqv_refl _ c]
  have n3 : ∀ d : D, flat2 2 d = true → (∀ x, d ≠ .str x) → cmpD .eq d d = some true := fun d hd hs => by
    have q := eqOk_flat hd (by decide)
    have c : d.canLay0 = true := by simp only [flat2, Bool.and_eq_true] at hd; exact hd.1
    cases d <;> first | exact absurd rfl (hs _) | simp [cmpD, q, SeqAt.eqv_refl _ c]
  have fl : ∀ q : List Int, flat2 2 (L q) = true := fun q => by
    have := eqOk_ints q
    simp only [flat2, Bool.and_eq_true, decide_eq_true_eq] at this ⊢
    exact ⟨this.1, by have := this.2; unfold L; omega⟩
  have n2' : ∀ q, cmpD .ne (L q) (L q) = some false := fun q => n2 _ (fl q) (fun x z => by cases z)
  have n3' : ∀ q, cmpD .eq (L q) (L q) = some true := fun q => n3 _ (fl q) (fun x z => by cases z)
  have lm : (markM t F).length = 2 ^ t := by simp [markM, lots_len t h.hi]
  have k1 : G_sums_down [.int t, L l] = some (L R1) := hR1 ▸ l_sums_down h.lo h.hi hl
  have k2 : G_sums_up [.int t, L l] = some (L R2) := hR2 ▸ l_sums_up h.lo h.hi hl
  have k3 : G_less_down [.int t, L l] = some (L R3) := hR3 ▸ l_less_down h.lo h.hi hl
  have k4 : G_less_up [.int t, L l] = some (L R4) := hR4 ▸ l_less_up h.lo h.hi hl
  have t1 : G_sums_down [.int t, .tuple (l.map .int)] = some (L R1) := hR1 ▸ tl_sums_down h.lo h.hi hl
  have t2 : G_sums_up [.int t, .tuple (l.map .int)] = some (L R2) := hR2 ▸ tl_sums_up h.lo h.hi hl
  have t3 : G_less_down [.int t, .tuple (l.map .int)] = some (L R3) := hR3 ▸ tl_less_down h.lo h.hi hl
  have t4 : G_less_up [.int t, .tuple (l.map .int)] = some (L R4) := hR4 ▸ tl_less_up h.lo h.hi hl
  have b1 : G_less_down [.int t, L R1] = some (L l) := by
    have := l_less_down h.lo h.hi (len true 1); rw [recM_back true 1 t l hl, hR1] at this; exact this
  have b2 : G_less_up [.int t, L R2] = some (L l) := by
    have := l_less_up h.lo h.hi (len false 1); rw [recM_back false 1 t l hl, hR2] at this; exact this
  have b3 : G_sums_down [.int t, L R3] = some (L l) := by
    have bb := recM_back true (-1) t l hl
    rw [Int.neg_neg] at bb
    have := l_sums_down h.lo h.hi (len true (-1)); rw [bb, hR3] at this; exact this
  have b4 : G_sums_up [.int t, L R4] = some (L l) := by
    have bb := recM_back false (-1) t l hl
    rw [Int.neg_neg] at bb
    have := l_sums_up h.lo h.hi (len false (-1)); rw [bb, hR4] at this; exact this
  have m1 : G_sums_down [.int t, L (markM t F)] = some (L (recM true 1 t (markM t F))) := l_sums_down h.lo h.hi lm
  have m2 : G_sums_up [.int t, L (markM t F)] = some (L (recM false 1 t (markM t F))) := l_sums_up h.lo h.hi lm
  have mk : G_marks [famD t F] = some (L (markM t F)) := marks h
  have e1' : ixD (famD t F) (.int 1) = some (.int t) := by kernel_rfl
  have e2' : G_law_numbers [.int t] xy1 = some (L l, xy2) := e2
  have ed := ev_dues h hl xy2 (.str (L l).shown)
  rw [hR1, hR2, hR3, hR4] at ed
  have lots := law_lots t h.lo h.hi
  have fm : (mkSl true (famD t F)) = .val (famD t F) := rfl
  have s1 : exS C_law_right (.asg 1 (.callp "_law_family" 0 (.cons (.int 6) .nil))) 3000 (dl .no .no .no .no .no .no .no .no .no .no .no) (some xy) = some (.nx (dl (.val (famD t F)) .no .no .no .no .no .no .no .no .no .no) (some xy1)) := by
    simp [dl, e1, demote, keeps, keepsS, Z.fresh, fm]
  have s2 : exS C_law_right (.asg 2 (.ix (.var 1) (.int 1))) 3000 (dl (.val (famD t F)) .no .no .no .no .no .no .no .no .no .no) (some xy1) = some (.nx (dl (.val (famD t F)) (.val (.int t)) .no .no .no .no .no .no .no .no .no) (some xy1)) := by
    simp [dl, e1', demote, keeps, peeks, Z.fresh, mkSl]
  have s3 : exS C_law_right (.asgT (.t (.cons (.v 3) (.cons (.v 4) .nil))) (.tup (.cons (.call "_law_lots" (.cons (.var 2) .nil)) (.cons (.callp "_law_numbers" 0 (.cons (.var 2) .nil)) .nil)))) 3000 (dl (.val (famD t F)) (.val (.int t)) .no .no .no .no .no .no .no .no .no) (some xy1) =
      some (.nx (dl (.val (famD t F)) (.val (.int t)) (.val (.list ((lotsN t).map lotD))) (.val (L l)) .no .no .no .no .no .no .no) (some xy2)) := by
    simp [dl, lots, e2', demote, demo1, keeps, keepsS, asgP, asgPs]
  have s4 : exS C_law_right (.asg 5 (.repr (.var 4))) 3000 (dl (.val (famD t F)) (.val (.int t)) (.val (.list ((lotsN t).map lotD))) (.val (L l)) .no .no .no .no .no .no .no) (some xy2) =
      some (.nx (dl (.val (famD t F)) (.val (.int t)) (.val (.list ((lotsN t).map lotD))) (.val (L l)) (.val (.str (L l).shown)) .no .no .no .no .no .no) (some xy2)) := by
    simp [dl, r1, demote, keeps, Z.fresh, mkSl]
  have s5 : exS C_law_right (.asg 6 duesE) 3000 (dl (.val (famD t F)) (.val (.int t)) (.val (.list ((lotsN t).map lotD))) (.val (L l)) (.val (.str (L l).shown)) .no .no .no .no .no .no) (some xy2) =
      some (.nx (dl (.val (famD t F)) (.val (.int t)) (.val (.list ((lotsN t).map lotD))) (.val (L l)) (.val (.str (L l).shown)) (.own (.list [L R1, L R2, L R3, L R4])) .no .no .no .no .no) (some xy2)) := by
    have kd : keeps C_law_right duesE = [4, 3] := rfl
    rw [x_asg, ed, kd]
    rfl
  have s6 : exS C_law_right (.asg 7 (.lst (.cons (.call "sums_down" (.cons (.var 2) (.cons (.var 4) .nil))) (.cons (.call "sums_up" (.cons (.var 2) (.cons (.var 4) .nil))) (.cons (.call "less_down" (.cons (.var 2) (.cons (.var 4) .nil))) (.cons (.call "less_up" (.cons (.var 2) (.cons (.var 4) .nil))) .nil)))))) 3000
      (dl (.val (famD t F)) (.val (.int t)) (.val (.list ((lotsN t).map lotD))) (.val (L l)) (.val (.str (L l).shown)) (.own (.list [L R1, L R2, L R3, L R4])) .no .no .no .no .no) (some xy2) =
      some (.nx (dl (.val (famD t F)) (.val (.int t)) (.val (.list ((lotsN t).map lotD))) (.val (L l)) (.val (.str (L l).shown)) (.own (.list [L R1, L R2, L R3, L R4])) (.own (.list [L R1, L R2, L R3, L R4])) .no .no .no .no) (some xy2)) := by
    simp [dl, k1, k2, k3, k4, demote, demo1, keeps, keepsS, Z.fresh, mkSl]
  have s7 : exS C_law_right (.asg 8 (.lst (.cons (.callk "sums_down" ["numbers", "things"] [1, 0] .nil (.cons (.tuple (.var 4)) (.cons (.var 2) .nil))) (.cons (.callk "sums_up" ["numbers", "things"] [1, 0] .nil (.cons (.tuple (.var 4)) (.cons (.var 2) .nil))) .nil)))) 3000
      (dl (.val (famD t F)) (.val (.int t)) (.val (.list ((lotsN t).map lotD))) (.val (L l)) (.val (.str (L l).shown)) (.own (.list [L R1, L R2, L R3, L R4])) (.own (.list [L R1, L R2, L R3, L R4])) .no .no .no .no) (some xy2) =
      some (.nx (dl (.val (famD t F)) (.val (.int t)) (.val (.list ((lotsN t).map lotD))) (.val (L l)) (.val (.str (L l).shown)) (.own (.list [L R1, L R2, L R3, L R4])) (.own (.list [L R1, L R2, L R3, L R4])) (.own (.list [L R1, L R2])) .no .no .no) (some xy2)) := by
    have it : items (L l) = some (l.map .int) := rfl
    simp [dl, t1, t2, it, demote, demo1, keeps, keepsS, peeks, Z.fresh, mkSl]
  have s8 : exS C_law_right (.app 8 (.callk "less_down" ["numbers", "things"] [1, 0] .nil (.cons (.tuple (.var 4)) (.cons (.var 2) .nil)))) 3000
      (dl (.val (famD t F)) (.val (.int t)) (.val (.list ((lotsN t).map lotD))) (.val (L l)) (.val (.str (L l).shown)) (.own (.list [L R1, L R2, L R3, L R4])) (.own (.list [L R1, L R2, L R3, L R4])) (.own (.list [L R1, L R2])) .no .no .no) (some xy2) =
      some (.nx (dl (.val (famD t F)) (.val (.int t)) (.val (.list ((lotsN t).map lotD))) (.val (L l)) (.val (.str (L l).shown)) (.own (.list [L R1, L R2, L R3, L R4])) (.own (.list [L R1, L R2, L R3, L R4])) (.own (.list [L R1, L R2, L R3])) .no .no .no) (some xy2)) := by
    have it : items (L l) = some (l.map .int) := rfl
    simp [exS, dl, t3, it, demote, demo1, keeps, keepsS, peeks, maxSize]
  have s9 : exS C_law_right (.app 8 (.callk "less_up" ["numbers", "things"] [1, 0] .nil (.cons (.tuple (.var 4)) (.cons (.var 2) .nil)))) 3000
      (dl (.val (famD t F)) (.val (.int t)) (.val (.list ((lotsN t).map lotD))) (.val (L l)) (.val (.str (L l).shown)) (.own (.list [L R1, L R2, L R3, L R4])) (.own (.list [L R1, L R2, L R3, L R4])) (.own (.list [L R1, L R2, L R3])) .no .no .no) (some xy2) =
      some (.nx (dl (.val (famD t F)) (.val (.int t)) (.val (.list ((lotsN t).map lotD))) (.val (L l)) (.val (.str (L l).shown)) (.own (.list [L R1, L R2, L R3, L R4])) (.own (.list [L R1, L R2, L R3, L R4])) (.own (.list [L R1, L R2, L R3, L R4])) .no .no .no) (some xy2)) := by
    have it : items (L l) = some (l.map .int) := rfl
    simp [exS, dl, t4, it, demote, demo1, keeps, keepsS, peeks, maxSize]
  have it4 : items (.list [L R1, L R2, L R3, L R4]) = some [L R1, L R2, L R3, L R4] := rfl
  have s10 : exS C_law_right (.ifS (.cmp .ne (.repr (.lst (.cons (.var 7) (.cons (.var 8) .nil)))) (.repr (.lst (.cons (.var 6) (.cons (.var 6) .nil))))) (.cons (.ret (.bl false)) .nil) .nil) 3000 (dl (.val (famD t F)) (.val (.int t)) (.val (.list ((lotsN t).map lotD))) (.val (L l)) (.val (.str (L l).shown)) (.own (.list [L R1, L R2, L R3, L R4])) (.own (.list [L R1, L R2, L R3, L R4])) (.own (.list [L R1, L R2, L R3, L R4])) .no .no .no) (some xy2) =
      some (.nx (dl (.val (famD t F)) (.val (.int t)) (.val (.list ((lotsN t).map lotD))) (.val (L l)) (.val (.str (L l).shown)) (.own (.list [L R1, L R2, L R3, L R4])) (.own (.list [L R1, L R2, L R3, L R4])) (.own (.list [L R1, L R2, L R3, L R4])) .no .no .no) (some xy2)) := by
    simp [dl, r8, n1, asBool]
  have i0 : ixD (.list [L R1, L R2, L R3, L R4]) (.int 0) = some (L R1) := rfl
  have i1 : ixD (.list [L R1, L R2, L R3, L R4]) (.int 1) = some (L R2) := rfl
  have i2 : ixD (.list [L R1, L R2, L R3, L R4]) (.int 2) = some (L R3) := rfl
  have i3 : ixD (.list [L R1, L R2, L R3, L R4]) (.int 3) = some (L R4) := rfl
  have s11 : exS C_law_right (.asg 9 (.lst (.cons (.call "less_down" (.cons (.var 2) (.cons (.ix (.var 7) (.int 0)) .nil))) (.cons (.call "less_up" (.cons (.var 2) (.cons (.ix (.var 7) (.int 1)) .nil))) (.cons (.call "sums_down" (.cons (.var 2) (.cons (.ix (.var 7) (.int 2)) .nil))) (.cons (.call "sums_up" (.cons (.var 2) (.cons (.ix (.var 7) (.int 3)) .nil))) .nil)))))) 3000 (dl (.val (famD t F)) (.val (.int t)) (.val (.list ((lotsN t).map lotD))) (.val (L l)) (.val (.str (L l).shown)) (.own (.list [L R1, L R2, L R3, L R4])) (.own (.list [L R1, L R2, L R3, L R4])) (.own (.list [L R1, L R2, L R3, L R4])) .no .no .no) (some xy2) =
      some (.nx (dl (.val (famD t F)) (.val (.int t)) (.val (.list ((lotsN t).map lotD))) (.val (L l)) (.val (.str (L l).shown)) (.own (.list [L R1, L R2, L R3, L R4])) (.own (.list [L R1, L R2, L R3, L R4])) (.own (.list [L R1, L R2, L R3, L R4])) (.own (.list [L l, L l, L l, L l])) .no .no) (some xy2)) := by
    simp [dl, i0, i1, i2, i3, b1, b2, b3, b4, demote, demo1, keeps, keepsS, peeks, Z.fresh, mkSl]
  have f4 : flat2 2 (.list [L l, L l, L l, L l]) = true := flat2_lst fun x hx => by
    simp only [List.mem_cons, List.not_mem_nil, or_false] at hx
    rcases hx with rfl | rfl | rfl | rfl <;> exact eqOk_ints l
  have ml : mulD (.list [L l]) (.int 4) = some (.list [L l, L l, L l, L l]) := rfl
  have n4 := n2 _ f4 (fun x z => by cases z)
  have s12 : exS C_law_right (.ifS (.any_ (.cons (.cmp .ne (.var 9) (.mul (.lst (.cons (.var 4) .nil)) (.int 4))) (.cons (.cmp .ne (.repr (.var 4)) (.var 5)) .nil))) (.cons (.ret (.bl false)) .nil) .nil) 3000 (dl (.val (famD t F)) (.val (.int t)) (.val (.list ((lotsN t).map lotD))) (.val (L l)) (.val (.str (L l).shown)) (.own (.list [L R1, L R2, L R3, L R4])) (.own (.list [L R1, L R2, L R3, L R4])) (.own (.list [L R1, L R2, L R3, L R4])) (.own (.list [L l, L l, L l, L l])) .no .no) (some xy2) =
      some (.nx (dl (.val (famD t F)) (.val (.int t)) (.val (.list ((lotsN t).map lotD))) (.val (L l)) (.val (.str (L l).shown)) (.own (.list [L R1, L R2, L R3, L R4])) (.own (.list [L R1, L R2, L R3, L R4])) (.own (.list [L R1, L R2, L R3, L R4])) (.own (.list [L l, L l, L l, L l])) .no .no) (some xy2)) := by
    simp [dl, r1, n1, n4, ml, asBool]
  have s13 : exS C_law_right (.par [10, 11] (.cons (.call "sums_down" (.cons (.var 2) (.cons (.call "marks" (.cons (.var 1) .nil)) .nil))) (.cons (.call "sums_up" (.cons (.var 2) (.cons (.call "marks" (.cons (.var 1) .nil)) .nil))) .nil))) 3000 (dl (.val (famD t F)) (.val (.int t)) (.val (.list ((lotsN t).map lotD))) (.val (L l)) (.val (.str (L l).shown)) (.own (.list [L R1, L R2, L R3, L R4])) (.own (.list [L R1, L R2, L R3, L R4])) (.own (.list [L R1, L R2, L R3, L R4])) (.own (.list [L l, L l, L l, L l])) .no .no) (some xy2) =
      some (.nx (dl (.val (famD t F)) (.val (.int t)) (.val (.list ((lotsN t).map lotD))) (.val (L l)) (.val (.str (L l).shown)) (.own (.list [L R1, L R2, L R3, L R4])) (.own (.list [L R1, L R2, L R3, L R4])) (.own (.list [L R1, L R2, L R3, L R4])) (.own (.list [L l, L l, L l, L l])) (.own (L (recM true 1 t (markM t F)))) (.own (L (recM false 1 t (markM t F))))) (some xy2)) := by
    have ms : ∀ q, mkSl true (L q) = .own (L q) := fun _ => rfl
    simp [exS, dl, mk, m1, m2, demote, demo1, keeps, keepsS, peeks, freshes, Z.fresh, setAll, ms]
  have c1 := ev_near h hl xy2 (.str (L l).shown) true (.own (.list [L R1, L R2, L R3, L R4])) (.own (.list [L R1, L R2, L R3, L R4])) (.own (.list [L R1, L R2, L R3, L R4])) (.own (.list [L l, L l, L l, L l])) (.own (L (recM true 1 t (markM t F)))) (.own (L (recM false 1 t (markM t F)))) _ rfl
  have c2 := ev_near h hl xy2 (.str (L l).shown) false (.own (.list [L R1, L R2, L R3, L R4])) (.own (.list [L R1, L R2, L R3, L R4])) (.own (.list [L R1, L R2, L R3, L R4])) (.own (.list [L l, L l, L l, L l])) (.own (L (recM true 1 t (markM t F)))) (.own (L (recM false 1 t (markM t F)))) _ rfl
  simp only [if_true] at c1
  simp only [Bool.false_eq_true, if_false] at c2
  have g1 : (dl (.val (famD t F)) (.val (.int t)) (.val (.list ((lotsN t).map lotD))) (.val (L l)) (.val (.str (L l).shown)) (.own (.list [L R1, L R2, L R3, L R4])) (.own (.list [L R1, L R2, L R3, L R4])) (.own (.list [L R1, L R2, L R3, L R4])) (.own (.list [L l, L l, L l, L l])) (.own (L (recM true 1 t (markM t F)))) (.own (L (recM false 1 t (markM t F)))))[10]? = some (.own (L (recM true 1 t (markM t F)))) := rfl
  have g2 : (dl (.val (famD t F)) (.val (.int t)) (.val (.list ((lotsN t).map lotD))) (.val (L l)) (.val (.str (L l).shown)) (.own (.list [L R1, L R2, L R3, L R4])) (.own (.list [L R1, L R2, L R3, L R4])) (.own (.list [L R1, L R2, L R3, L R4])) (.own (.list [L l, L l, L l, L l])) (.own (L (recM true 1 t (markM t F)))) (.own (L (recM false 1 t (markM t F)))))[11]? = some (.own (L (recM false 1 t (markM t F)))) := rfl
  have s14 : exS C_law_right (.ifS (.cmp .ne (.var 10) (.comp (.len (.comp (.var 16) (.v 16) (.seq (.ix (.var 1) (.int 2))) [("one", 16)] (.yes (.call "_law_is_in" (.cons (.var 16) (.cons (.var 15) .nil)))))) (.v 15) (.seq (.var 3)) [("lot", 15)] .no)) (.cons (.ret (.bl false)) .nil) .nil) 3000
      (dl (.val (famD t F)) (.val (.int t)) (.val (.list ((lotsN t).map lotD))) (.val (L l)) (.val (.str (L l).shown)) (.own (.list [L R1, L R2, L R3, L R4])) (.own (.list [L R1, L R2, L R3, L R4])) (.own (.list [L R1, L R2, L R3, L R4])) (.own (.list [L l, L l, L l, L l])) (.own (L (recM true 1 t (markM t F)))) (.own (L (recM false 1 t (markM t F))))) (some xy2) = some (.nx (dl (.val (famD t F)) (.val (.int t)) (.val (.list ((lotsN t).map lotD))) (.val (L l)) (.val (.str (L l).shown)) (.own (.list [L R1, L R2, L R3, L R4])) (.own (.list [L R1, L R2, L R3, L R4])) (.own (.list [L R1, L R2, L R3, L R4])) (.own (.list [L l, L l, L l, L l])) (.own (L (recM true 1 t (markM t F)))) (.own (L (recM false 1 t (markM t F))))) (some xy2)) := by
    rw [x_if, ev_cmp, ev_var, g1]
    simp only [Option.bind_eq_bind, Option.bind_some, c1, n2']
    rfl
  have s15 : exS C_law_right (.ret (.cmp .eq (.var 11) (.comp (.len (.comp (.var 16) (.v 16) (.seq (.ix (.var 1) (.int 2))) [("one", 16)] (.yes (.call "_law_is_in" (.cons (.var 15) (.cons (.var 16) .nil)))))) (.v 15) (.seq (.var 3)) [("lot", 15)] .no))) 3000
      (dl (.val (famD t F)) (.val (.int t)) (.val (.list ((lotsN t).map lotD))) (.val (L l)) (.val (.str (L l).shown)) (.own (.list [L R1, L R2, L R3, L R4])) (.own (.list [L R1, L R2, L R3, L R4])) (.own (.list [L R1, L R2, L R3, L R4])) (.own (.list [L l, L l, L l, L l])) (.own (L (recM true 1 t (markM t F)))) (.own (L (recM false 1 t (markM t F))))) (some xy2) = some (.rt (.bool true) false (some xy2)) := by
    rw [x_ret, ev_cmp, ev_var, g2]
    simp only [Option.bind_eq_bind, Option.bind_some, c2, n3']
    rfl
  have all : exSs C_law_right S_law_right 3000 (dl .no .no .no .no .no .no .no .no .no .no .no) (some xy) = some (.rt (.bool true) false (some xy2)) := by
    unfold S_law_right
    unfold duesE at s5
    rw [x_step s1, x_step s2, x_step s3, x_step s4, x_step s5, x_step s6, x_step s7, x_step s8, x_step s9, x_step s10, x_step s11, x_step s12, x_step s13, x_step s14, x_cons, s15]
    rfl
  have st : startD N_law_right (.pot :: ([] : List D).map .val) = dl .no .no .no .no .no .no .no .no .no .no .no := rfl
  refine ⟨xy2, ?_⟩
  unfold G_law_right runP
  rw [if_pos (show ([] : List D).length = 0 from rfl), st, all]
  rfl
end L91
namespace L91
open PySem L2 Z
@[simp] theorem ev_slen' {Γ : Tab} {p : Nat} {δ : Dl} {π : Pot} : evE Γ (.slen p) δ π = (match δ[p]? with
    | some (.scr ns) => some (.int ns.length, π)
    | _ => none) := by simp only [evE] <;> rfl
@[simp] theorem ev_six' {Γ : Tab} {p : Nat} {e : E} {δ : Dl} {π : Pot} : evE Γ (.six p e) δ π = (do
    let (x, π) ← evE Γ e δ π
    let i ← asInt x
    match δ[p]? with
    | some (.scr ns) => do let k ← atI ns i; pure (.int k, π)
    | _ => none) := by simp only [evE] <;> rfl
theorem law_pot (ns : List Int) (hns : ns.length ≤ 63) (k : Nat) (h1 : k ≤ 1) : ∃ xy, G_law_pot ns k = some xy ∧ PotOk xy := by
  have key : ∃ c : Int, 0 ≤ c ∧ exS C_law_pot (.asg 2 (.ite (.cmp .lt (.var 1) (.slen 0)) (.abs (.six 0 (.var 1))) (.add (.mul (.int 2293) (.var 1)) (.int 1999)))) 3000 [.scr ns, .val (.int k), .no] none = some (.nx [.scr ns, .val (.int k), .val (.int c)] none) := by
    by_cases hk : k < ns.length
    · have e : atI ns (k : Int) = some ns[k] := by
        simp [atI, ixN, hk]
      refine ⟨if ns[k] < 0 then -ns[k] else ns[k], by split <;> omega, ?_⟩
      simp [cmpD, hk, asBool, asInt, e, demote, keeps, peeks, Z.fresh, mkSl]
    · refine ⟨2293 * k + 1999, by omega, ?_⟩
      have s1 : smallI 2293 = true := by decide
      simp [cmpD, hk, asBool, asInt, addD, mulD, s1, demote, keeps, peeks, Z.fresh, mkSl]
  obtain ⟨c, hc, e⟩ := key
  have m := Int.emod_nonneg (c % 2147483549 * 40692 + 2293 * (k : Int) + 1307) (b := 2147483563) (by decide)
  have m2 := Int.emod_lt_of_pos (c % 2147483549 * 40692 + 2293 * (k : Int) + 1307) (b := 2147483563) (by decide)
  refine ⟨(if c - 10 ^ 18 > 0 then c - 10 ^ 18 else 0, (c % 2147483549 * 40692 + 2293 * (k : Int) + 1307) % 2147483563 + 1), ?_, ?_, ?_, ?_⟩
  · unfold G_law_pot runS S_law_pot
    rw [st_law_pot, x_cons, e]
    have s1 : smallI 2293 = true := by decide
    have s2 : smallI 40692 = true := by decide
    simp [asInt, addD, mulD, modD, s1, s2, isVar, Z.fresh]
  · simp only; split <;> omega
  · simp only; omega
  · simp only; omega
theorem holds (ns : List Int) (h : ns.length ≤ 63) : G_law ns := by
  have run : ∀ k : Nat, k ≤ 1 → ∃ xy xy', G_law_pot ns k = some xy ∧ G_law_right [] xy = some (.bool true, xy') := fun k hk => by
    obtain ⟨xy, e, ok⟩ := law_pot ns h k hk
    obtain ⟨xy', e2⟩ := law_right xy ok
    exact ⟨xy, xy', e, e2⟩
  have step : ∀ (k : Nat), k ≤ 1 → evE C_law (.calln "_law_right" "_law_pot" 0 (.var 1) .nil) [.scr ns, .val (.int k)] none = some (.bool true, none) := fun k hk => by
    obtain ⟨xy, xy', e1, e2⟩ := run k hk
    simp [evE, asInt, e1, e2]
  have one : ∀ (n : Nat), n ≤ 2 → evI C_law (.rng (.max2 (.int 1) (.min2 (.int 2) (.slen 0)))) [.scr ns, .no] none = some ((List.range n).map fun k => .int (k : Nat), none) → evE C_law (.comp (.calln "_law_right" "_law_pot" 0 (.var 1) .nil) (.v 1) (.rng (.max2 (.int 1) (.min2 (.int 2) (.slen 0)))) [("k", 1)] .no) [.scr ns, .no] none = some (.list ((List.range n).map fun _ => .bool true), none) := fun n hn hi => by
    refine ev_comp' (fun k : Nat => .int (k : Nat)) (fun _ => .bool true) (List.range n) hi (by rw [List.length_range]; exact Nat.le_trans hn (by decide)) fun a ha => ?_
    refine ⟨[.scr ns, .val (.int a)], rfl, step a ?_⟩
    have := List.mem_range.mp ha; omega
  have it : ∃ n : Nat, n ≤ 2 ∧ evI C_law (.rng (.max2 (.int 1) (.min2 (.int 2) (.slen 0)))) [.scr ns, .no] none = some ((List.range n).map fun k => .int (k : Nat), none) := by
    by_cases h2 : 2 ≤ ns.length
    · refine ⟨2, Nat.le_refl _, ?_⟩
      have c1 : ¬ ((ns.length : Int) < 2) := by omega
      simp [asInt, c1, rngD]
    · refine ⟨1, by decide, ?_⟩
      by_cases h1 : ns.length = 0
      · simp [asInt, h1, rngD]
      · have c1 : ns.length = 1 := by omega
        simp [asInt, c1, rngD]
  obtain ⟨n, hn, hi⟩ := it
  have e := one n hn hi
  refine ⟨false, none, ?_⟩
  unfold S_law
  rw [st_law, x_cons, x_ret, ev_all, e]
  have ab := allBool_map' (fun _ : Nat => true) (List.range n)
  simp [lstOf, ab, isVar]
  rfl
end L91
open PySem PySem.W PyProof.Rows
set_option maxHeartbeats 0 in
theorem PySem.Challenge.cw_lotfamilies_k91_whole_sums_and_back_holds : PySem.Challenge.rw_lotfamilies_k91_whole_sums_and_back.Holds := by
  w_on; o_law; k_head; (case hw => w_witness2)
  k_fill
  refine Z.walkG (l := PySem.Challenge.rw_lotfamilies_k91_whole_sums_and_back) (n := 63) (k := 36) (x := "script") (ok := fun ns => ns.length ≤ 63) rfl (by decide) rfl ⟨rfl, by decide, by decide⟩ (fun w h Y => PySem.W.kIn_of Y) (fun ns h => h) ?F
  case F =>
    intro w mg fa h KX G hmg
    have hb := Z.blt_none KX G (by unfold Z.bltNames; simp only [List.mem_cons, List.not_mem_nil, or_false]; intro y hy; rcases hy with rfl | rfl | rfl | rfl | rfl | rfl | rfl | rfl | rfl | rfl | rfl | rfl | rfl | rfl | rfl | rfl | rfl | rfl | rfl | rfl <;> k_is)
    have d_law_draw : Z.DxAt KX mg "_law_draw" (L91.topS 38) := by
      refine' Z.dx_mk KX G ?a ?l ?c ?k
      (case a => k_is); (case l => k_is); (case c => k_is); (case k => k_is)
    have d_law_pick : Z.DxAt KX mg "_law_pick" (L91.topS 39) := by
      refine' Z.dx_mk KX G ?a ?l ?c ?k
      (case a => k_is); (case l => k_is); (case c => k_is); (case k => k_is)
    have d_law_lots : Z.DxAt KX mg "_law_lots" (L91.topS 40) := by
      refine' Z.dx_mk KX G ?a ?l ?c ?k
      (case a => k_is); (case l => k_is); (case c => k_is); (case k => k_is)
    have d_law_family : Z.DxAt KX mg "_law_family" (L91.topS 41) := by
      refine' Z.dx_mk KX G ?a ?l ?c ?k
      (case a => k_is); (case l => k_is); (case c => k_is); (case k => k_is)
    have d_law_numbers : Z.DxAt KX mg "_law_numbers" (L91.topS 45) := by
      refine' Z.dx_mk KX G ?a ?l ?c ?k
      (case a => k_is); (case l => k_is); (case c => k_is); (case k => k_is)
    have d_is_integer : Z.DxAt KX mg "is_integer" (L91.topS 1) := by
      refine' Z.dx_mk KX G ?a ?l ?c ?k
      (case a => k_is); (case l => k_is); (case c => k_is); (case k => k_is)
    have d_is_within : Z.DxAt KX mg "is_within" (L91.topS 2) := by
      refine' Z.dx_mk KX G ?a ?l ?c ?k
      (case a => k_is); (case l => k_is); (case c => k_is); (case k => k_is)
    have d_want_things : Z.DxAt KX mg "want_things" (L91.topS 17) := by
      refine' Z.dx_mk KX G ?a ?l ?c ?k
      (case a => k_is); (case l => k_is); (case c => k_is); (case k => k_is)
    have d_is_list : Z.DxAt KX mg "is_list" (L91.topS 3) := by
      refine' Z.dx_mk KX G ?a ?l ?c ?k
      (case a => k_is); (case l => k_is); (case c => k_is); (case k => k_is)
    have d_power_of : Z.DxAt KX mg "power_of" (L91.topS 19) := by
      refine' Z.dx_mk KX G ?a ?l ?c ?k
      (case a => k_is); (case l => k_is); (case c => k_is); (case k => k_is)
    have d_are_numbers_for : Z.DxAt KX mg "are_numbers_for" (L91.topS 21) := by
      refine' Z.dx_mk KX G ?a ?l ?c ?k
      (case a => k_is); (case l => k_is); (case c => k_is); (case k => k_is)
    have d_want_numbers : Z.DxAt KX mg "want_numbers" (L91.topS 22) := by
      refine' Z.dx_mk KX G ?a ?l ?c ?k
      (case a => k_is); (case l => k_is); (case c => k_is); (case k => k_is)
    have d_want_asked : Z.DxAt KX mg "want_asked" (L91.topS 23) := by
      refine' Z.dx_mk KX G ?a ?l ?c ?k
      (case a => k_is); (case l => k_is); (case c => k_is); (case k => k_is)
    have d_has_bit : Z.DxAt KX mg "has_bit" (L91.topS 24) := by
      refine' Z.dx_mk KX G ?a ?l ?c ?k
      (case a => k_is); (case l => k_is); (case c => k_is); (case k => k_is)
    have d_passed : Z.DxAt KX mg "passed" (L91.topS 26) := by
      refine' Z.dx_mk KX G ?a ?l ?c ?k
      (case a => k_is); (case l => k_is); (case c => k_is); (case k => k_is)
    have d_down : Z.DxAt KX mg "down" (L91.topS 27) := by
      refine' Z.dx_mk KX G ?a ?l ?c ?k
      (case a => k_is); (case l => k_is); (case c => k_is); (case k => k_is)
    have d_sums_down : Z.DxAt KX mg "sums_down" (L91.topS 32) := by
      refine' Z.dx_mk KX G ?a ?l ?c ?k
      (case a => k_is); (case l => k_is); (case c => k_is); (case k => k_is)
    have d_up : Z.DxAt KX mg "up" (L91.topS 29) := by
      refine' Z.dx_mk KX G ?a ?l ?c ?k
      (case a => k_is); (case l => k_is); (case c => k_is); (case k => k_is)
    have d_sums_up : Z.DxAt KX mg "sums_up" (L91.topS 33) := by
      refine' Z.dx_mk KX G ?a ?l ?c ?k
      (case a => k_is); (case l => k_is); (case c => k_is); (case k => k_is)
    have d_down_less : Z.DxAt KX mg "down_less" (L91.topS 28) := by
      refine' Z.dx_mk KX G ?a ?l ?c ?k
      (case a => k_is); (case l => k_is); (case c => k_is); (case k => k_is)
    have d_less_down : Z.DxAt KX mg "less_down" (L91.topS 34) := by
      refine' Z.dx_mk KX G ?a ?l ?c ?k
      (case a => k_is); (case l => k_is); (case c => k_is); (case k => k_is)
    have d_up_less : Z.DxAt KX mg "up_less" (L91.topS 30) := by
      refine' Z.dx_mk KX G ?a ?l ?c ?k
      (case a => k_is); (case l => k_is); (case c => k_is); (case k => k_is)
    have d_less_up : Z.DxAt KX mg "less_up" (L91.topS 35) := by
      refine' Z.dx_mk KX G ?a ?l ?c ?k
      (case a => k_is); (case l => k_is); (case c => k_is); (case k => k_is)
    have d_law_is_in : Z.DxAt KX mg "_law_is_in" (L91.topS 42) := by
      refine' Z.dx_mk KX G ?a ?l ?c ?k
      (case a => k_is); (case l => k_is); (case c => k_is); (case k => k_is)
    have d_law_sum : Z.DxAt KX mg "_law_sum" (L91.topS 46) := by
      refine' Z.dx_mk KX G ?a ?l ?c ?k
      (case a => k_is); (case l => k_is); (case c => k_is); (case k => k_is)
    have d_is_tuple : Z.DxAt KX mg "is_tuple" (L91.topS 4) := by
      refine' Z.dx_mk KX G ?a ?l ?c ?k
      (case a => k_is); (case l => k_is); (case c => k_is); (case k => k_is)
    have d_are_rising : Z.DxAt KX mg "are_rising" (L91.topS 5) := by
      refine' Z.dx_mk KX G ?a ?l ?c ?k
      (case a => k_is); (case l => k_is); (case c => k_is); (case k => k_is)
    have d_is_lot_of : Z.DxAt KX mg "is_lot_of" (L91.topS 6) := by
      refine' Z.dx_mk KX G ?a ?l ?c ?k
      (case a => k_is); (case l => k_is); (case c => k_is); (case k => k_is)
    have d_is_family_value : Z.DxAt KX mg "is_family_value" (L91.topS 15) := by
      refine' Z.dx_mk KX G ?a ?l ?c ?k
      (case a => k_is); (case l => k_is); (case c => k_is); (case k => k_is)
    have d_want_family : Z.DxAt KX mg "want_family" (L91.topS 16) := by
      refine' Z.dx_mk KX G ?a ?l ?c ?k
      (case a => k_is); (case l => k_is); (case c => k_is); (case k => k_is)
    have d_all_lots : Z.DxAt KX mg "all_lots" (L91.topS 18) := by
      refine' Z.dx_mk KX G ?a ?l ?c ?k
      (case a => k_is); (case l => k_is); (case c => k_is); (case k => k_is)
    have d_marks_of : Z.DxAt KX mg "marks_of" (L91.topS 25) := by
      refine' Z.dx_mk KX G ?a ?l ?c ?k
      (case a => k_is); (case l => k_is); (case c => k_is); (case k => k_is)
    have d_marks : Z.DxAt KX mg "marks" (L91.topS 31) := by
      refine' Z.dx_mk KX G ?a ?l ?c ?k
      (case a => k_is); (case l => k_is); (case c => k_is); (case k => k_is)
    have d_law_right : Z.DxAt KX mg "_law_right" (L91.topS 47) := by
      refine' Z.dx_mk KX G ?a ?l ?c ?k
      (case a => k_is); (case l => k_is); (case c => k_is); (case k => k_is)
    have d_law_pot : Z.DxAt KX mg "_law_pot" (L91.topS 37) := by
      refine' Z.dx_mk KX G ?a ?l ?c ?k
      (case a => k_is); (case l => k_is); (case c => k_is); (case k => k_is)
    have d_law : Z.DxAt KX mg "law" (L91.topS 48) := by
      refine' Z.dx_mk KX G ?a ?l ?c ?k
      (case a => k_is); (case l => k_is); (case c => k_is); (case k => k_is)
    refine' Z.lawF (fun base => L91.tab_ok KX G hb ?g_MOST_THINGS ?g_FAMILY d_law_draw d_law_pick d_law_lots d_law_family d_law_numbers d_is_integer d_is_within d_want_things d_is_list d_power_of d_are_numbers_for d_want_numbers d_want_asked d_has_bit d_passed d_down d_sums_down d_up d_sums_up d_down_less d_less_down d_up_less d_less_up d_law_is_in d_law_sum d_is_tuple d_are_rising d_is_lot_of d_is_family_value d_want_family d_all_lots d_marks_of d_marks d_law_right d_law_pot) d_law hmg L91.bi_law L91.sc_law L91.ch_law (by decide) L91.holds
    (case g_MOST_THINGS => k_is)
    (case g_FAMILY => k_is)
